import PyProof.Rows.All
import Wide.All
import OpenK.AllK
import Wide.FinOn
import PyProof.Rows.Many
import PyProof.WalksMore
import PyProof.PlainList
import PyProof.TupleKey
import PyProof.DictKinds
import OpenK.KMake
import PyProof.Rows.News
import OpenK.KWalk
import OpenK.KCell
import KE.KTryMore
import PyProof.Cells
import PyProof.Rows.Nodes
import PyProof.Rows.Chain
import PyProof.Rows.TupSub
import PyProof.Rows.Own
import PyProof.Rows.IntRules
import PyProof.Raises
import PyProof.Rules2
import PyProof.ForAny
import PyProof.Rows.SeqInts
import PyProof.IsRules
import PyProof.ListTruth
import PyProof.Truth
import PyProof.Rows.RuleB_small
import PyProof.Rows.RuleB_mul
import PyProof.Rows.RuleB_mod
import PyProof.Rows.RuleB_floordiv
import PyProof.Rows.RuleU_int
import PyProof.Rows.RuleC_int
import PyProof.Rows.EqDataRows
import PyProof.Rows.SeqMore
import PyProof.IsiPairs
import PyProof.IsiNone
import PyProof.IsInstanceH
import PyProof.WalkInts
import PyProof.ListCopy
import PyProof.RangeFor
import PyProof.Methods
import PyProof.PureCalls
import PyProof.ListIndex
import PyProof.ListIndexNeg
import PyProof.Conv_int_bool
import PyProof.FactsAll.list_3
import PyProof.Rows.RuleN_abs
import PyProof.Rows.StrTemp
import PyProof.Rows.Method
import PyProof.Rows.Exc
import PyProof.Rows.StrRules
import PyProof.CompFree
import PyProof.CompMap
import PyProof.Rows.TupIter
import PyProof.Rows.TupAssign
import PyProof.RulesAssignMore
import KE.KItem
import KE.KPop
import OpenK.KOwn
import KE.KSliceW
import KE.KRevSl
import PyProof.ConsumeWalk
import PyProof.ZipIter
import PyProof.Rows.ZipGen
import PyProof.LayNew
import KE.KIsAll
import PyProof.ExcArgs
import KE.KMulAny
import PyProof.Rows.SeqCalls
import KE.KEqDeep
import PyProof.FactsAll.tuple_2
import PyProof.Rows.TupTab
import PyProof.Rows.DictMade
import PyProof.DictRoadsH
import PyProof.Rows.SortRuns
import PyProof.Rows.SortShell
import KE.KSortTup
import PyProof.Rows.SortWalk
import PySem.Challenge.RW_uf050038_09
set_option Elab.async false
set_option linter.all false
open PySem PySem.W PySem.Calls PySem.Spec PyProof.Rows

set_option autoImplicit false
namespace Mine
open PySem PySem.Calls PySem.Spec PyProof.Rows

/-! Abstract values and objects -/
inductive V where
  | none
  | bool (b : Bool)
  | int (n : Int)
  | str (s : Str)
  | tup (vs : List V)
  | ref (i : Nat)
  | scr
  | glob (v : Value)

inductive O where
  | list (vs : List V)
  | exn (C : Addr)
  | tab (ks : List (List Int))
  | inst (C : Addr) (j : Nat)
  | att (es : List (Str × V))
  | dic

structure St where
  loc : Str → Option V
  hp : List O

def setN (l : Str → Option V) (x : Str) (v : V) : Str → Option V := fun y => if y = x then some v else l y
def St.set (σ : St) (x : Str) (v : V) : St := ⟨setN σ.loc x v, σ.hp⟩

/-- where the abstract objects lie -/
structure Wd where
  al : List Addr
  tp : List (Addr × List Value)
  sc : Addr

def Wd.le (W W' : Wd) : Prop := W.al <+: W'.al ∧ (∀ t ∈ W.tp, t ∈ W'.tp) ∧ W.sc = W'.sc
theorem Wd.le.refl (W : Wd) : W.le W := ⟨List.prefix_refl _, fun _ h => h, rfl⟩
theorem Wd.le.trans {W W' W'' : Wd} (a : W.le W') (b : W'.le W'') : W.le W'' := ⟨a.1.trans b.1, fun t h => b.2.1 t (a.2.1 t h), a.2.2.trans b.2.2⟩

mutual
inductive VR (W : Wd) : V → Value → Prop
  | none : VR W .none .none
  | bool (b : Bool) : VR W (.bool b) (.bool b)
  | int (n : Int) (t : Tok) : VR W (.int n) (.int n t)
  | str (x : Str) (t : Tok) : VR W (.str x) (.str x t)
  | tup {vs : List V} {xs : List Value} {a : Addr} : (a, xs) ∈ W.tp → VRs W vs xs → VR W (.tup vs) (.ref a)
  | ref {i : Nat} {a : Addr} : W.al[i]? = some a → VR W (.ref i) (.ref a)
  | scr : VR W .scr (.ref W.sc)
  | glob (v : Value) : VR W (.glob v) v
inductive VRs (W : Wd) : List V → List Value → Prop
  | nil : VRs W [] []
  | cons {v : V} {vs : List V} {x : Value} {xs : List Value} : VR W v x → VRs W vs xs → VRs W (v :: vs) (x :: xs)
end

theorem prefix_get {α : Type} {l l' : List α} {i : Nat} {a : α} (h : l <+: l') (e : l[i]? = some a) : l'[i]? = some a := by
  obtain ⟨t, rfl⟩ := h
  rw [List.getElem?_append_left (by
    rcases Nat.lt_or_ge i l.length with q | q
    · exact q
    · rw [List.getElem?_eq_none q] at e; cases e)]
  exact e

mutual
theorem VR.mono {W W' : Wd} (h : W.le W') : ∀ {v : V} {x : Value}, VR W v x → VR W' v x
  | _, _, .none => .none
  | _, _, .bool b => .bool b
  | _, _, .int n t => .int n t
  | _, _, .str x t => .str x t
  | _, _, .tup m r => .tup (h.2.1 _ m) (VRs.mono h r)
  | _, _, .ref e => .ref (prefix_get h.1 e)
  | _, _, .scr => h.2.2 ▸ .scr
  | _, _, .glob v => .glob v
theorem VRs.mono {W W' : Wd} (h : W.le W') : ∀ {vs : List V} {xs : List Value}, VRs W vs xs → VRs W' vs xs
  | _, _, .nil => .nil
  | _, _, .cons a r => .cons (VR.mono h a) (VRs.mono h r)
end

theorem VRs.length {W : Wd} : ∀ {vs : List V} {xs : List Value}, VRs W vs xs → vs.length = xs.length
  | _, _, .nil => rfl
  | _, _, .cons _ r => by simp [VRs.length r]
theorem VRs.append {W : Wd} : ∀ {vs ws : List V} {xs ys : List Value}, VRs W vs xs → VRs W ws ys → VRs W (vs ++ ws) (xs ++ ys)
  | _, _, _, _, .nil => fun r => r
  | _, _, _, _, .cons a q => fun r => .cons a (VRs.append q r)
theorem VRs.get {W : Wd} : ∀ {vs : List V} {xs : List Value}, VRs W vs xs → ∀ {i : Nat} {v : V}, vs[i]? = some v → ∃ x, xs[i]? = some x ∧ VR W v x
  | _, _, .nil => by intro h; simp at h
  | _, _, .cons a r => by
    rename_i i v _ _ _ _
    intro h
    cases i with
    | zero => simp at h; subst h; exact ⟨_, rfl, a⟩
    | succ i => simpa using VRs.get r (by simpa using h)
theorem VRs.set {W : Wd} : ∀ {vs : List V} {xs : List Value}, VRs W vs xs → ∀ (i : Nat) {v : V} {x : Value}, VR W v x → VRs W (vs.set i v) (xs.set i x)
  | _, _, .nil, i, v, x, h => by simpa using .nil
  | _, _, .cons a r, 0, v, x, h => .cons h r
  | _, _, .cons a r, i + 1, v, x, h => .cons a (VRs.set r i h)
abbrev tupObj (xs : List Value) : Obj := { cls := .type "tuple", data := .seq xs.toArray 0 }
abbrev listObj (xs : List Value) (n : Nat) : Obj := { cls := .type "list", data := .seq xs.toArray n }

/-- the hash of a tuple of numbers -/
def tabHash (ks : List Int) : Int := reduceHash (Builtin.Tuple.tupleHashOf (ks.map hashInt))
def AttE (W : Wd) : List (Str × V) → List DictEntry → Prop
  | [], [] => True
  | (x, v) :: es, d :: ds => (∃ t, d.key = .str x t) ∧ VR W v d.val ∧ AttE W es ds
  | _, _ => False
theorem AttE.mono {W W' : Wd} (h : W.le W') : ∀ {es : List (Str × V)} {ds : List DictEntry}, AttE W es ds → AttE W' es ds
  | [], [], _ => trivial
  | (_, _) :: _, _ :: _, ⟨a, b, c⟩ => ⟨a, b.mono h, AttE.mono h c⟩
  | [], _ :: _, x => x.elim
  | _ :: _, [], x => x.elim

inductive OR (W : Wd) : O → Addr → Obj → Prop
  | list {a : Addr} {vs : List V} {xs : List Value} (n : Nat) : VRs W vs xs → OR W (.list vs) a (listObj xs n)
  | exn {a C : Addr} {ob : Obj} {vs : Array Value} : ob.cls = .ref C → ob.data = .fields vs → OR W (.exn C) a ob
  | tab {a : Addr} {ks : List (List Int)} {ob : Obj} {es : Array DictEntry} {ep : Nat} {xs : List (List Int × Addr × Value)} : (a == sysModules) = false → ob.ExactDict → ob.data = .dict es ep → es.toList = xs.map (fun x => (⟨tabHash x.1, .ref x.2.1, x.2.2⟩ : DictEntry)) →
      xs.map (·.1) = ks → ks.Nodup → (∀ x ∈ xs, ∃ us, (x.2.1, us) ∈ W.tp ∧ VRs W (x.1.map .int) us) → OR W (.tab ks) a ob
  | inst {a C dx : Addr} {j : Nat} : W.al[j]? = some dx → OR W (.inst C j) a (PySem.W.instObj C dx)
  | att {a : Addr} {es : List (Str × V)} {ob : Obj} {ds : List DictEntry} {ep : Nat} : ob.cls = .type "dict" → ob.data = .dict ds.toArray ep → AttE W es ds → OR W (.att es) a ob
  | dic {a : Addr} {ob : Obj} : ob.cls = .type "dict" → OR W .dic a ob

theorem OR.mono {W W' : Wd} (h : W.le W') {o : O} {a : Addr} {ob : Obj} : OR W o a ob → OR W' o a ob
  | .list n r => .list n (r.mono h)
  | .exn a b => .exn a b
  | .tab a b c d e f g => .tab a b c d e f fun x hx => let ⟨us, h1, h2⟩ := g x hx; ⟨us, h.2.1 _ h1, h2.mono h⟩
  | .inst e => .inst (prefix_get h.1 e)
  | .att a b c => .att a b (c.mono h)
  | .dic a => .dic a

end Mine

set_option autoImplicit false
namespace Mine
open PySem PySem.W PySem.Calls PySem.Spec PyProof.Rows

/-- the program, its world, what stands at its top -/
structure Pg where
  prog : Program
  w : World
  K : Frag
  p : Program
  loose : List Str
  mean : ExcName → Option Value
  mg : Str → Option Value
  mb : Str → Option Value

/-- the value of a name at the top -/
def Pg.gl (pg : Pg) (x : Str) : Option Value :=
  match nsIn pg.K mainGlobals x with
  | some (some v) => some v
  | some none => if x = "__name__" then none else bootBuiltins x
  | none => none

/-- a frame: what does not change while its body runs -/
structure Fx where
  pg : Pg
  A : Around
  env : Env
  fenv : Env
  outer : List Env
  A₀ : Around
  base : Heap
  h₀ : Heap
  L : Addr
  ex : List (Addr × Obj)
  s₀ : Shared
  sc : Addr
  ns : List Int
  lev : Nat
  mfix : Option (Str → Option Value)
  qt : Bool

abbrev Fx.M (fx : Fx) : Model := model fx.pg.prog fx.pg.w

/-- a name-space object says x is u -/
def NsSays (o : Obj) (x : Str) (u : Value) : Prop := ∃ es ep, o.data = .dict es ep ∧ StrKeys es ∧ nsFind es x = some u

inductive NameAt (fx : Fx) (m : Str → Option Value) (news : List (Addr × Obj)) (x : Str) (u : Value) : Prop
  | loc : fx.env.kindOf x = some .local → fx.env.locals = fx.L → m x = some u → NameAt fx m news x u
  | comp {o : Obj} : fx.env.kindOf x = some .local → (fx.env.locals, o) ∈ fx.ex → NsSays o x u → NameAt fx m news x u
  | cell {c : Addr} {o : Obj} : fx.env.kindOf x = some .cell ∨ fx.env.kindOf x = some .free → fx.env.cells.lookup x = some c → (c, o) ∈ news → o.data = .cell (some u) → NameAt fx m news x u

structure Core (fx : Fx) (σ : St) (W : Wd) (m : Str → Option Value) (news : List (Addr × Obj)) : Prop where
  nd : (news.map (·.1)).Nodup
  exs : ∀ p ∈ fx.ex, p ∈ news
  exd : ∀ p ∈ fx.ex, p.1 ∉ W.al
  aln : W.al.Nodup
  len : W.al.length = σ.hp.length
  obs : ∀ (i : Nat) (o : O), σ.hp[i]? = some o → ∃ a ob, W.al[i]? = some a ∧ (a, ob) ∈ news ∧ OR W o a ob
  tps : ∀ t ∈ W.tp, (t.1, tupObj t.2) ∈ news
  loc : ∀ x v, σ.loc x = some v → ∃ u, VR W v u ∧ NameAt fx m news x u
  cel : ∀ x c, fx.env.cells.lookup x = some c → c ∉ W.al ∧ ∃ o v, (c, o) ∈ news ∧ o.data = .cell v
  scc : W.sc = fx.sc
  mfx : ∀ m₀, fx.mfix = some m₀ → m = m₀
  ext : ∀ p ∈ fx.ex, ∀ t ∈ W.tp, p.1 ≠ t.1

structure Rep (fx : Fx) (σ : St) (W : Wd) (s : Shared) : Prop where
  rest : s = { fx.s₀ with heap := s.heap, toks := s.toks }
  more : ∃ g m news, KtsTurn (fx.outer.filterMap (·.frame)) fx.h₀ g ∧ Fr g fx.L s.heap m ∧ News g fx.L s.heap news ∧ Core fx σ W m news

theorem Rep.elim {fx : Fx} {σ : St} {W : Wd} {s : Shared} {P : Prop} (R : Rep fx σ W s) (k : s = { fx.s₀ with heap := s.heap, toks := s.toks } → ∀ g m news, KtsTurn (fx.outer.filterMap (·.frame)) fx.h₀ g → Fr g fx.L s.heap m → News g fx.L s.heap news → Core fx σ W m news → P) : P := by
  obtain ⟨e, g, m, news, G, F, N, C⟩ := R
  exact k e g m news G F N C
theorem rest_with {s s₀ : Shared} (e : s = { s₀ with heap := s.heap, toks := s.toks }) (h : Heap) (t : Nat) : ({ s with heap := h, toks := t } : Shared) = { s₀ with heap := h, toks := t } := by
  rw [e]

theorem frKeeps {h₀ h h' : Heap} {L : Addr} {m : Str → Option Value} (F : Fr h₀ L h m) (k : ∀ b o, h.get? b = some o → h'.get? b = some o) : Fr h₀ L h' m :=
  ⟨F.ns.keeps k, fun b o e => k b o (F.keep b o e), F.above⟩
theorem newsKeeps {h₀ h h' : Heap} {L : Addr} {news : List (Addr × Obj)} (N : News h₀ L h news) (k : ∀ b o, h.get? b = some o → h'.get? b = some o) : News h₀ L h' news :=
  fun p hp => ⟨k _ _ (N p hp).1, (N p hp).2⟩

theorem Rep.keep {fx : Fx} {σ : St} {W : Wd} {s : Shared} (R : Rep fx σ W s) {h' : Heap} (tk : Nat) (k : ∀ b o, s.heap.get? b = some o → h'.get? b = some o) : Rep fx σ W { s with heap := h', toks := tk } := by
  refine R.elim fun e g m news G F N C => ?_
  exact ⟨rest_with e _ _, g, m, news, G, frKeeps F k, newsKeeps N k, C⟩

theorem Rep.toks {fx : Fx} {σ : St} {W : Wd} {s : Shared} (R : Rep fx σ W s) (tk : Nat) : Rep fx σ W { s with toks := tk } := by
  refine R.elim fun e g m news G F N C => ?_
  exact ⟨rest_with e _ _, g, m, news, G, F, N, C⟩

theorem newsNodup {h₀ h : Heap} {L : Addr} {news : List (Addr × Obj)} (N : News h₀ L h news) (nd : (news.map (·.1)).Nodup) (o : Obj) : (((h.objs.size, o) :: news).map (·.1)).Nodup := by
  rw [List.map_cons, List.nodup_cons]
  refine ⟨fun hm => ?_, nd⟩
  obtain ⟨p, hp, e⟩ := List.mem_map.mp hm
  have := Heap.lt_size (N p hp).1
  rw [show p.1 = h.objs.size from e] at this
  exact Nat.lt_irrefl _ this

theorem NameAt.mono {fx : Fx} {m : Str → Option Value} {news news' : List (Addr × Obj)} {x : Str} {u : Value} (h : ∀ p ∈ news, p ∈ news') : NameAt fx m news x u → NameAt fx m news' x u
  | .loc a b c => .loc a b c
  | .comp a b c => .comp a b c
  | .cell a b c d => .cell a b (h _ c) d

theorem Core.al_lt {fx : Fx} {σ : St} {W : Wd} {m : Str → Option Value} {news : List (Addr × Obj)} (C : Core fx σ W m news) {a : Addr} (ha : a ∈ W.al) : ∃ o, (a, o) ∈ news := by
  obtain ⟨i, hi, rfl⟩ := List.getElem_of_mem ha
  have hi' : i < σ.hp.length := C.len ▸ hi
  obtain ⟨a, ob, h1, h2, _⟩ := C.obs i σ.hp[i] (by simp [hi'])
  rw [List.getElem?_eq_getElem hi] at h1
  cases h1
  exact ⟨ob, h2⟩

/-- a new object of the abstract heap -/
theorem Rep.alloc {fx : Fx} {σ : St} {W : Wd} {s : Shared} (R : Rep fx σ W s) {o : O} {ob : Obj} (tk : Nat) (hf : ob.isFreed = false)
    (hr : ∀ W', W.le W' → OR W' o s.heap.objs.size ob) :
    ∃ W', W.le W' ∧ W'.al = W.al ++ [s.heap.objs.size] ∧ Rep fx ⟨σ.loc, σ.hp ++ [o]⟩ W' { s with heap := s.heap.push ob, toks := tk } := by
  refine R.elim fun e g m news G F N C => ?_
  have hle : W.le ⟨W.al ++ [s.heap.objs.size], W.tp, W.sc⟩ := ⟨List.prefix_append _ _, fun _ h => h, rfl⟩
  refine ⟨⟨W.al ++ [s.heap.objs.size], W.tp, W.sc⟩, hle, rfl, rest_with e _ _, g, m, (s.heap.objs.size, ob) :: news, G, F.push ob, N.push F ob hf, ?_⟩
  have fresh : ∀ p ∈ news, p.1 ≠ s.heap.objs.size := fun p hp => Nat.ne_of_lt (Heap.lt_size (N p hp).1)
  refine ⟨newsNodup N C.nd ob, fun p hp => .tail _ (C.exs p hp), fun p hp hm => ?_, ?_, ?_, fun i o' h => ?_, fun t ht => .tail _ (C.tps t ht), fun x v h => ?_, fun x c h => ?_, C.scc, C.mfx, C.ext⟩
  · rcases List.mem_append.mp hm with hm | hm
    · exact C.exd p hp hm
    · exact fresh p (C.exs p hp) (List.mem_singleton.mp hm)
  · refine List.nodup_append.mpr ⟨C.aln, by simp, fun a ha b hb => ?_⟩
    rw [List.mem_singleton.mp hb]
    obtain ⟨o', ho'⟩ := C.al_lt ha
    exact fresh _ ho'
  · simp [C.len]
  · dsimp only at h
    rcases Nat.lt_trichotomy i σ.hp.length with q | q | q
    · rw [List.getElem?_append_left q] at h
      obtain ⟨a, ob', h1, h2, h3⟩ := C.obs i o' h
      exact ⟨a, ob', prefix_get hle.1 h1, .tail _ h2, h3.mono hle⟩
    · subst q
      simp at h
      subst h
      exact ⟨_, ob, by simp [← C.len], .head _, hr _ hle⟩
    · rw [List.getElem?_eq_none (by simp; omega)] at h
      cases h
  · obtain ⟨u, h1, h2⟩ := C.loc x v h
    exact ⟨u, h1.mono hle, h2.mono fun p hp => .tail _ hp⟩
  · obtain ⟨h1, o', v, h2, h3⟩ := C.cel x c h
    refine ⟨fun hm => ?_, o', v, .tail _ h2, h3⟩
    rcases List.mem_append.mp hm with hm | hm
    · exact h1 hm
    · exact fresh _ h2 (List.mem_singleton.mp hm)


/-- an object joins the abstract heap -/
theorem Core.add {fx : Fx} {σ : St} {W : Wd} {m : Str → Option Value} {news : List (Addr × Obj)} (C : Core fx σ W m news) {a : Addr} {ob : Obj} {o : O} (fresh : ∀ p ∈ news, p.1 ≠ a) (hr : ∀ W', W.le W' → OR W' o a ob) :
    Core fx ⟨σ.loc, σ.hp ++ [o]⟩ ⟨W.al ++ [a], W.tp, W.sc⟩ m ((a, ob) :: news) := by
  have hle : W.le ⟨W.al ++ [a], W.tp, W.sc⟩ := ⟨List.prefix_append _ _, fun _ h => h, rfl⟩
  refine ⟨?_, fun p hp => .tail _ (C.exs p hp), fun p hp hm => ?_, ?_, ?_, fun i o' h => ?_, fun t ht => .tail _ (C.tps t ht), fun x v h => ?_, fun x c h => ?_, C.scc, C.mfx, C.ext⟩
  · rw [List.map_cons, List.nodup_cons]
    refine ⟨fun hm => ?_, C.nd⟩
    obtain ⟨p, hp, e⟩ := List.mem_map.mp hm
    exact fresh p hp e
  · rcases List.mem_append.mp hm with hm | hm
    · exact C.exd p hp hm
    · exact fresh p (C.exs p hp) (List.mem_singleton.mp hm)
  · refine List.nodup_append.mpr ⟨C.aln, by simp, fun b hb b' hb' => ?_⟩
    rw [List.mem_singleton.mp hb']
    obtain ⟨o', ho'⟩ := C.al_lt hb
    exact fresh _ ho'
  · simp [C.len]
  · dsimp only at h
    rcases Nat.lt_trichotomy i σ.hp.length with q | q | q
    · rw [List.getElem?_append_left q] at h
      obtain ⟨b, ob', h1, h2, h3⟩ := C.obs i o' h
      exact ⟨b, ob', prefix_get hle.1 h1, .tail _ h2, h3.mono hle⟩
    · subst q
      simp at h
      subst h
      exact ⟨_, ob, by simp [← C.len], .head _, hr _ hle⟩
    · rw [List.getElem?_eq_none (by simp; omega)] at h
      cases h
  · obtain ⟨u, h1, h2⟩ := C.loc x v h
    exact ⟨u, h1.mono hle, h2.mono fun p hp => .tail _ hp⟩
  · obtain ⟨h1, o', v, h2, h3⟩ := C.cel x c h
    refine ⟨fun hm => ?_, o', v, .tail _ h2, h3⟩
    rcases List.mem_append.mp hm with hm | hm
    · exact h1 hm
    · exact fresh _ h2 (List.mem_singleton.mp hm)

/-- the same, by what a rule of the library gives -/
theorem Rep.addN {fx : Fx} {σ : St} {W : Wd} {s : Shared} (er : s = { fx.s₀ with heap := s.heap, toks := s.toks }) {g : Heap} {m : Str → Option Value} {news : List (Addr × Obj)} (G : KtsTurn (fx.outer.filterMap (·.frame)) fx.h₀ g) (C : Core fx σ W m news) {D : Addr} {ob : Obj} {o : O} {h' : Heap}
    (F' : Fr g fx.L h' m) (N' : News g fx.L h' ((D, ob) :: news)) (fresh : ∀ p ∈ news, p.1 ≠ D) (hr : ∀ W', W.le W' → OR W' o D ob) :
    ∃ W', W.le W' ∧ W'.al[σ.hp.length]? = some D ∧ Rep fx ⟨σ.loc, σ.hp ++ [o]⟩ W' { s with heap := h' } :=
  ⟨⟨W.al ++ [D], W.tp, W.sc⟩, ⟨List.prefix_append _ _, fun _ h => h, rfl⟩, by simp [← C.len], by rw [er], g, m, _, G, F', N', C.add fresh hr⟩

/-- a new tuple -/
theorem Rep.newTup {fx : Fx} {σ : St} {W : Wd} {s : Shared} (R : Rep fx σ W s) (xs : List Value) (tk : Nat) :
    ∃ W', W.le W' ∧ (s.heap.objs.size, xs) ∈ W'.tp ∧ Rep fx σ W' { s with heap := s.heap.push (tupObj xs), toks := tk } := by
  refine R.elim fun e g m news G F N C => ?_
  have hle : W.le ⟨W.al, (s.heap.objs.size, xs) :: W.tp, W.sc⟩ := ⟨List.prefix_refl _, fun _ h => .tail _ h, rfl⟩
  refine ⟨⟨W.al, (s.heap.objs.size, xs) :: W.tp, W.sc⟩, hle, .head _, rest_with e _ _, g, m, (s.heap.objs.size, tupObj xs) :: news, G, F.push _, N.push F _, ?_⟩
  refine ⟨newsNodup N C.nd _, fun p hp => .tail _ (C.exs p hp), C.exd, C.aln, C.len, fun i o h => ?_, fun t ht => ?_, fun x v h => ?_, fun x c h => ?_, C.scc, C.mfx, fun p hp t ht => ?_⟩
  · obtain ⟨a, ob', h1, h2, h3⟩ := C.obs i o h
    exact ⟨a, ob', h1, .tail _ h2, h3.mono hle⟩
  · rcases List.mem_cons.mp ht with rfl | ht
    · exact .head _
    · exact .tail _ (C.tps t ht)
  · obtain ⟨u, h1, h2⟩ := C.loc x v h
    exact ⟨u, h1.mono hle, h2.mono fun p hp => .tail _ hp⟩
  · obtain ⟨h1, o', v, h2, h3⟩ := C.cel x c h
    exact ⟨h1, o', v, .tail _ h2, h3⟩
  · rcases List.mem_cons.mp ht with rfl | ht
    · exact Nat.ne_of_lt (Heap.lt_size (N p (C.exs p hp)).1)
    · exact C.ext p hp t ht

/-- a plain local is stored -/
theorem Rep.setLoc {fx : Fx} {σ : St} {W : Wd} {s : Shared} (R : Rep fx σ W s) {x : Str} {v : V} {u : Value} (hv : VR W v u) (hk : fx.env.kindOf x = some .local) (hL : fx.env.locals = fx.L) (hm : fx.mfix = none)
    (tk : Nat) {h' : Heap} {M : Str → Option Value} (hM : M x = some u) (hM' : ∀ y, y ≠ x → ∀ m, s.heap.Ns fx.L m → M y = m y) (hn : h'.Ns fx.L M) (hs : Heap.SameBut fx.L s.heap h') :
    Rep fx (σ.set x v) W { s with heap := h', toks := tk } := by
  refine R.elim fun e g m news G F N C => ?_
  refine ⟨rest_with e _ _, g, M, news, G, F.set hn hs, N.set hs, ?_⟩
  refine ⟨C.nd, C.exs, C.exd, C.aln, C.len, C.obs, C.tps, fun y w h => ?_, C.cel, C.scc, fun m₀ q => (by rw [hm] at q; cases q), C.ext⟩
  by_cases q : y = x
  · subst q
    simp [St.set, setN] at h
    subst h
    exact ⟨u, hv, .loc hk hL hM⟩
  · simp [St.set, setN, q] at h
    obtain ⟨u', h1, h2⟩ := C.loc y w h
    refine ⟨u', h1, ?_⟩
    cases h2 with
    | loc a b c => exact .loc a b ((hM' y q m F.ns).trans c)
    | comp a b c => exact .comp a b c
    | cell a b c d => exact .cell a b c d

/-- what a frame stands under changes nothing of what it holds -/
theorem Core.cast {fx : Fx} {σ : St} {W : Wd} {m : Str → Option Value} {news : List (Addr × Obj)} {A A' : Around} {q q' : Bool} (C : Core { fx with A := A, qt := q } σ W m news) : Core { fx with A := A', qt := q' } σ W m news :=
  ⟨C.nd, C.exs, C.exd, C.aln, C.len, C.obs, C.tps, fun x v h => by
    obtain ⟨u, h1, h2⟩ := C.loc x v h
    refine ⟨u, h1, ?_⟩
    cases h2 with
    | loc a b c => exact .loc a b c
    | comp a b c => exact .comp a b c
    | cell a b c d => exact .cell a b c d, C.cel, C.scc, C.mfx, C.ext⟩
theorem Rep.cast {fx : Fx} {σ : St} {W : Wd} {s : Shared} {A A' : Around} {q q' : Bool} (R : Rep { fx with A := A, qt := q } σ W s) : Rep { fx with A := A', qt := q' } σ W s := by
  refine R.elim fun e g m news G F N C => ?_
  exact ⟨e, g, m, news, G, F, N, C.cast⟩

def setL (a : Addr) (ob : Obj) (news : List (Addr × Obj)) : List (Addr × Obj) := news.map fun p => if p.1 = a then (a, ob) else p
theorem setL_keys (a : Addr) (ob : Obj) (news : List (Addr × Obj)) : (setL a ob news).map (·.1) = news.map (·.1) := by
  unfold setL
  rw [List.map_map]
  refine List.map_congr_left fun p _ => ?_
  by_cases q : p.1 = a
  · simp [q]
  · simp [q]
theorem setL_self {a : Addr} {ob ob' : Obj} {news : List (Addr × Obj)} (h : (a, ob) ∈ news) : (a, ob') ∈ setL a ob' news := List.mem_map.mpr ⟨_, h, by simp⟩
theorem setL_ne {a : Addr} {ob' : Obj} {news : List (Addr × Obj)} {p : Addr × Obj} (h : p ∈ news) (q : p.1 ≠ a) : p ∈ setL a ob' news := List.mem_map.mpr ⟨_, h, by simp [q]⟩
theorem mem_setL {a : Addr} {ob' : Obj} {news : List (Addr × Obj)} {p : Addr × Obj} (h : p ∈ setL a ob' news) : (p = (a, ob') ∧ ∃ ob, (a, ob) ∈ news) ∨ (p ∈ news ∧ p.1 ≠ a) := by
  obtain ⟨q, hq, e⟩ := List.mem_map.mp h
  by_cases z : q.1 = a
  · simp [z] at e
    exact .inl ⟨e.symm, q.2, by rw [← z]; exact hq⟩
  · simp [z] at e
    subst e
    exact .inr ⟨hq, z⟩
theorem key_inj {news : List (Addr × Obj)} (nd : (news.map (·.1)).Nodup) {a : Addr} {o o' : Obj} (h : (a, o) ∈ news) (h' : (a, o') ∈ news) : o = o' := by
  induction news with
  | nil => cases h
  | cons p r ih =>
    rw [List.map_cons, List.nodup_cons] at nd
    rcases List.mem_cons.mp h with e | h
    · rcases List.mem_cons.mp h' with e' | h'
      · rw [← e'] at e; cases e; rfl
      · exact absurd (List.mem_map.mpr ⟨_, h', by rw [← e]⟩) nd.1
    · rcases List.mem_cons.mp h' with e' | h'
      · exact absurd (List.mem_map.mpr ⟨_, h, by rw [← e']⟩) nd.1
      · exact ih nd.2 h h'

theorem fr_upd {h₀ h h' : Heap} {L a : Addr} {m : Str → Option Value} {news : List (Addr × Obj)} {ob ob' : Obj} (F : Fr h₀ L h m) (N : News h₀ L h news) (hm : (a, ob) ∈ news)
    (hs : Heap.ExtBut a h h') (hg : h'.get? a = some ob') : Fr h₀ L h' m ∧ News h₀ L h' (setL a ob' news) := by
  have D := N _ hm
  refine ⟨⟨F.ns.extBut hs (Ne.symm D.2.1), fun b o e => hs b o (fun z => ?_) (F.keep b o e), F.above⟩, fun p hp => ?_⟩
  · have := D.2.2; rw [← z, e] at this; cases this
  · rcases mem_setL hp with ⟨rfl, _⟩ | ⟨hp, z⟩
    · exact ⟨hg, D.2⟩
    · exact ⟨hs _ _ z (N p hp).1, (N p hp).2⟩

theorem nodup_idx {α : Type} {l : List α} (nd : l.Nodup) : ∀ {i j : Nat} {a : α}, l[i]? = some a → l[j]? = some a → i = j := by
  induction l with
  | nil => intro i j a h; simp at h
  | cons x r ih =>
    rw [List.nodup_cons] at nd
    intro i j a hi hj
    cases i with
    | zero =>
      cases j with
      | zero => rfl
      | succ j =>
        simp at hi hj
        subst hi
        exact absurd (List.mem_of_getElem? hj) nd.1
    | succ i =>
      cases j with
      | zero =>
        simp at hi hj
        subst hj
        exact absurd (List.mem_of_getElem? hi) nd.1
      | succ j => exact congrArg (· + 1) (ih nd.2 (by simpa using hi) (by simpa using hj))

/-- an object of the abstract heap changes -/
theorem Rep.upd {fx : Fx} {σ : St} {W : Wd} {s : Shared} (R : Rep fx σ W s) {i : Nat} {a : Addr} {o o' : O} {ob' : Obj} (ho : σ.hp[i]? = some o) (ha : W.al[i]? = some a) (hr : OR W o' a ob') (tk : Nat) {h' : Heap}
    (hs : Heap.ExtBut a s.heap h') (hg : h'.get? a = some ob') : Rep fx ⟨σ.loc, σ.hp.set i o'⟩ W { s with heap := h', toks := tk } := by
  refine R.elim fun e g m news G F N C => ?_
  obtain ⟨a', ob, h1, h2, h3⟩ := C.obs i o ho
  rw [ha] at h1
  cases h1
  obtain ⟨F', N'⟩ := fr_upd F N h2 hs hg
  have hin : a ∈ W.al := List.mem_of_getElem? ha
  have other : ∀ p ∈ news, p.1 ≠ a → p ∈ setL a ob' news := fun p hp q => setL_ne hp q
  refine ⟨rest_with e _ _, g, m, setL a ob' news, G, F', N', ?_⟩
  refine ⟨by rw [setL_keys]; exact C.nd, fun p hp => other p (C.exs p hp) fun q => C.exd p hp (q ▸ hin), C.exd, C.aln, by simp [C.len], fun j o₁ h => ?_, fun t ht => other _ (C.tps t ht) fun q => ?_, fun x v h => ?_, fun x c h => ?_, C.scc, C.mfx, C.ext⟩
  · dsimp only at h
    by_cases q : j = i
    · subst q
      have hj : j < σ.hp.length := by
        rcases Nat.lt_or_ge j σ.hp.length with z | z
        · exact z
        · rw [List.getElem?_eq_none z] at ho; cases ho
      rw [List.getElem?_set_self hj] at h
      cases h
      exact ⟨a, ob', ha, setL_self h2, hr⟩
    · rw [List.getElem?_set_ne (Ne.symm q)] at h
      obtain ⟨b, ob₁, k1, k2, k3⟩ := C.obs j o₁ h
      refine ⟨b, ob₁, k1, other _ k2 fun z => q ?_, k3⟩
      dsimp only at z
      subst z
      exact nodup_idx C.aln k1 ha
  · dsimp only at q
    have := C.tps t ht
    rw [q] at this
    have e := key_inj C.nd this h2
    cases h3 with
    | list n r => injection e with e1; simp at e1
    | exn _ q2 => rw [← e] at q2; cases q2
    | tab _ x _ => have := x.1; rw [← e] at this; injection this with this; exact absurd this (by decide)
    | inst _ => injection e with e1; cases e1
    | att x _ => rw [← e] at x; injection x with x; exact absurd x (by decide)
    | dic x => rw [← e] at x; injection x with x; exact absurd x (by decide)
  · obtain ⟨u, k1, k2⟩ := C.loc x v h
    refine ⟨u, k1, ?_⟩
    cases k2 with
    | loc p q r => exact .loc p q r
    | comp p q r => exact .comp p q r
    | cell p q r t => exact .cell p q (other _ r fun z => (C.cel x _ q).1 (by dsimp only at z; rw [z]; exact hin)) t
  · obtain ⟨k1, o₁, v, k2, k3⟩ := C.cel x c h
    exact ⟨k1, o₁, v, other _ k2 fun z => k1 (by dsimp only at z; rw [z]; exact hin), k3⟩


inductive Kd where
  | made | fly | held
/-- an exception within a frame: made there, come from a call, noted there -/
inductive FlyS (B : Heap) (l : List Env) (L e : Addr) (cls : Value) (h : Heap) : Kd → Prop
  | made {oe : Obj} {vs : Array Value} {a0 : Value} : B.StaysIn h → B.get? e = none → h.FunFrames B l → h.get? e = some oe → oe.cls = cls → oe.data = .fields vs → vs[0]? = some a0 → vs[1]? = some .none → FlyS B l L e cls h .made
  | fly {a0 : Value} : Heap.FlyingW B l e cls a0 h → FlyS B l L e cls h .fly
  | held {a0 : Value} : Heap.HeldW B l e cls a0 L h → FlyS B l L e cls h .held

theorem FlyS.stays {B : Heap} {l : List Env} {L e : Addr} {cls : Value} {h : Heap} {k : Kd} (x : FlyS B l L e cls h k) : B.StaysIn h ∧ B.get? e = none := by
  cases x with
  | made a b _ _ _ _ _ _ => exact ⟨a, b⟩
  | fly a => exact ⟨a.1, a.2.1⟩
  | held a => exact ⟨a.1, a.2.1⟩
theorem FlyS.there {B : Heap} {l : List Env} {L e : Addr} {cls : Value} {h : Heap} {k : Kd} (x : FlyS B l L e cls h k) : ∃ oe vs, h.get? e = some oe ∧ oe.cls = cls ∧ oe.data = .fields vs := by
  cases x with
  | made _ _ _ a b c _ _ => exact ⟨_, _, a, b, c⟩
  | fly a =>
    obtain ⟨_, _, _, oe, vs, T, oT, ts, h1, h2, h3, _⟩ := a
    exact ⟨oe, vs, h1, h2.1, h3⟩
  | held a =>
    obtain ⟨_, _, _, oe, vs, T, oT, ts, h1, h2, h3, _⟩ := a
    exact ⟨oe, vs, h1, h2.1, h3⟩

section
variable {M : Model} {A : Around} {E : Value → Shared → Prop} {s : Shared} {B : Heap} {env : Env} {outer : List Env} {L e : Addr} {cls : Value} {k : Kd}
theorem noteFly {Q : Unit → Shared → Prop} (hfr : A.frames = some (env :: outer)) (hf : env.frame = some L) (x : FlyS B (env :: outer) L e cls s.heap k)
    (h : ∀ h', FlyS B (env :: outer) L e cls h' .held → s.heap.UpToSlots h' → Q () { s with heap := h' }) : wpAny M A (noteFrame (.ref e) env) Q E s := by
  cases x with
  | made x1 x2 x3 x4 x5 x6 x7 x8 =>
    unfold noteFrame
    simp only [hf]
    refine wpAny_bind (wpAny_field x4 x6 x8 ?_)
    rw [if_neg (by decide)]
    refine wpAny_entryW hfr x3 hf x4 x1 x2 x6 (Array.getElem?_eq_some_iff.mp x8).1 x7 fun h' ⟨k1, k2, k3, k4⟩ => h h' (.held ⟨k1, x2, k2, x5 ▸ k3⟩) k4
  | fly x => exact wpAny_looks_onW hfr hf x fun h' hh hs => h h' (.held hh) hs
  | held x => exact wpAny_noteFrame_againW hf x.2.2.2 (h s.heap (.held x) (.refl _))
theorem landFly {Q : Unit → Shared → Prop} {l : List Env} (x : FlyS B l L e cls s.heap .held)
    (h : ∀ h', FlyS B l L e cls h' .fly → s.heap.UpToSlots h' → Q () { s with heap := h' }) : wpAny M A (setFlight (.ref e) none) Q E s := by
  cases x with
  | held x => exact wpAny_landsW x fun h' hh hs => h h' (.fly hh) hs
theorem leaveFly {Q : Unit → Shared → Prop} {L₁ : Addr} (hfr : A.frames = some (env :: outer)) (hf : env.frame = some L) (x : FlyS B (env :: outer) L e cls s.heap k)
    (h : ∀ h', FlyS B outer L₁ e cls h' .fly → s.heap.UpToSlots h' → Q () { s with heap := h' }) : wpAny M A (leaving env (.ref e)) Q E s := by
  unfold leaving
  refine wpAny_bind (noteFly hfr hf x fun h₁ x₁ u₁ => ?_)
  refine landFly x₁ fun h₂ x₂ u₂ => ?_
  cases x₂ with
  | fly y =>
    obtain ⟨k1, k2, ⟨_, _, k3⟩, k4⟩ := y
    exact h h₂ (.fly ⟨k1, k2, k3, k4⟩) (u₁.trans u₂)
theorem setFlightHeld {l : List Env} {a0 : Value} {Q : Unit → Shared → Prop} (R : Heap.HeldW B l e cls a0 L s.heap)
    (h : ∀ h', Heap.HeldW B l e cls a0 L h' → s.heap.UpToSlots h' → Q () { s with heap := h' }) : wpAny M A (setFlight (.ref e) (some L)) Q E s := by
  obtain ⟨r1, r2, r3, oe, vs, T, oT, ts, q1, q2, q3, q4, q5, q6, q7, q8, q9⟩ := R
  have big : 3 < ts.size := (Array.getElem?_eq_some_iff.mp q9).1
  have same : ∀ b, b ≠ T → (s.heap.update T (Obj.mapFields (·.setIfInBounds 3 ((some L).elim Value.none fun f => rawInt f)))).get? b = s.heap.get? b := fun b hb => Heap.get?_update_other _ _ (Ne.symm hb)
  have plain : ∀ b o, s.heap.get? b = some o → (∀ vs, o.data ≠ .fields vs) → b ≠ T := fun b o hb hnf q => hnf ts (by rw [q, q7] at hb; cases hb; exact q8)
  unfold setFlight
  refine wpAny_bind (wpAny_field q1 q3 q4 ?_)
  rw [if_pos (show (Value.ref T != Value.none) = true from by simp)]
  refine wpAny_setField q7 q8 big (h _ ⟨fun b o hb => ?_, r2, r3.of_keeps fun b o hb hnf => ⟨o, (same b (plain b o hb hnf)).trans hb, rfl⟩, ?_⟩ fun b o hb hnf => ⟨o.slots, (same b (plain b o hb hnf)).trans hb⟩)
  · exact (same b fun q => by rw [q, q5] at hb; cases hb).trans (r1 b o hb)
  · exact ⟨oe, vs, T, _, _, (same e (Ne.symm q6)).trans q1, q2, q3, q4, q5, q6, Heap.get?_update_self _ q7 (Obj.isFreed_of_fields (Obj.data_mapFields q8 _)), Obj.data_mapFields q8 _, by simp [big]⟩
theorem notedFly {Q : Value → Shared → Prop} (hfr : A.frames = some (env :: outer)) (hf : env.frame = some L) (x : FlyS B (env :: outer) L e cls s.heap k)
    (h : ∀ h', FlyS B (env :: outer) L e cls h' .held → s.heap.UpToSlots h' → Q (.ref e) { s with heap := h' }) : notedBy M A env (cameBackBy M A env Q) (.ref e) s := by
  unfold notedBy
  refine noteFly hfr hf x fun h₁ x₁ u₁ => ?_
  cases x₁ with
  | held y =>
    unfold cameBackBy
    obtain ⟨_, _, _, oe, vs, T, oT, ts, y1, y2, y3, y4, _⟩ := id y
    refine wpAny_bind (wpAny_field y1 y3 y4 ?_)
    rw [if_neg (show ¬ ((Value.ref T == Value.none) = true) from by simp)]
    rw [hf]
    exact setFlightHeld y fun h₂ x₂ u₂ => h h₂ (.held x₂) (u₁.trans u₂)
end

/-- what holds of a frame in which an exception flies -/
structure XCore (fx : Fx) (σ : St) (W : Wd) (g : Heap) (m : Str → Option Value) (news : List (Addr × Obj)) (B h : Heap) : Prop where
  turn : KtsTurn (fx.outer.filterMap (·.frame)) fx.h₀ g
  dic : KtsDicts (fx.outer.filterMap (·.frame)) g
  size : g.objs.size ≤ fx.L
  ns : h.Ns fx.L m
  gB : ∀ b o, g.get? b = some o → b ∉ (fx.fenv :: fx.outer).filterMap (·.frame) → B.get? b = some o
  fr : ∀ b o, g.get? b = some o → ∃ sl, h.get? b = some { o with slots := sl }
  nw : ∀ p ∈ news, B.get? p.1 = some p.2 ∧ p.1 ≠ fx.L ∧ g.get? p.1 = none
  core : Core fx σ W m news
  base : fx.base.StaysIn B

theorem mem_frames {env : Env} {outer : List Env} {L b : Addr} (hf : env.frame = some L) (hm : b ∈ (env :: outer).filterMap (·.frame)) : b = L ∨ b ∈ outer.filterMap (·.frame) := by
  obtain ⟨env', he, hf'⟩ := List.mem_filterMap.mp hm
  rcases List.mem_cons.mp he with rfl | he
  · rw [hf] at hf'
    exact .inl (Option.some.inj hf').symm
  · exact .inr (List.mem_filterMap.mpr ⟨env', he, hf'⟩)
theorem ground_self {g : Heap} {L : Addr} (h : g.objs.size ≤ L) : g.get? L = none := by
  cases q : g.get? L with
  | none => rfl
  | some o => exact absurd (Nat.lt_of_lt_of_le (Heap.lt_size q) h) (Nat.lt_irrefl _)
theorem XCore.up {fx : Fx} {σ : St} {W : Wd} {g B h h' : Heap} {m : Str → Option Value} {news : List (Addr × Obj)} (x : XCore fx σ W g m news B h) (hf : fx.fenv.frame = some fx.L) (st : B.StaysIn h') (u : h.UpToSlots h') : XCore fx σ W g m news B h' :=
  ⟨x.turn, x.dic, x.size, u.ns x.ns, x.gB, fun b o e => by
    by_cases q : b ∈ (fx.fenv :: fx.outer).filterMap (·.frame)
    · rcases mem_frames hf q with z | z
      · rw [z, ground_self x.size] at e
        cases e
      · obtain ⟨o', es, n, e1, e2⟩ := x.dic b z
        rw [e] at e1
        cases e1
        obtain ⟨sl, e3⟩ := x.fr b o e
        obtain ⟨sl', e4⟩ := u b { o with slots := sl } e3 fun vs y => by rw [show ({ o with slots := sl } : Obj).data = o.data from rfl, e2] at y; cases y
        exact ⟨sl', e4⟩
    · exact ⟨o.slots, st b o (x.gB b o e q)⟩, x.nw, x.core, x.base⟩

structure XRep (fx : Fx) (σ : St) (W : Wd) (e : Addr) (cls : Value) (k : Kd) (s : Shared) : Prop where
  rest : s = { fx.s₀ with heap := s.heap, toks := s.toks }
  more : ∃ g m news B, XCore fx σ W g m news B s.heap ∧ FlyS B (fx.fenv :: fx.outer) fx.L e cls s.heap k

section
variable {M : Model} {A : Around} {E : Value → Shared → Prop} {s : Shared} {fx : Fx} {σ : St} {W : Wd} {e : Addr} {cls : Value} {k : Kd}
theorem rest_heap {s s₀ : Shared} (e : s = { s₀ with heap := s.heap, toks := s.toks }) (h : Heap) : ({ s with heap := h } : Shared) = { s₀ with heap := h, toks := s.toks } := by
  rw [e]
theorem XRep.note {Q : Unit → Shared → Prop} (x : XRep fx σ W e cls k s) (hfr : A.frames = some (fx.fenv :: fx.outer)) (hf : fx.fenv.frame = some fx.L)
    (h : ∀ h', XRep fx σ W e cls .held { s with heap := h' } → Q () { s with heap := h' }) : wpAny M A (noteFrame (.ref e) fx.fenv) Q E s := by
  obtain ⟨r, g, m, news, B, c, f⟩ := x
  exact noteFly hfr hf f fun h' f' u => h h' ⟨rest_heap r _, g, m, news, B, c.up hf f'.stays.1 u, f'⟩
theorem XRep.land {Q : Unit → Shared → Prop} (x : XRep fx σ W e cls .held s) (hf : fx.fenv.frame = some fx.L)
    (h : ∀ h', XRep fx σ W e cls .fly { s with heap := h' } → Q () { s with heap := h' }) : wpAny M A (setFlight (.ref e) none) Q E s := by
  obtain ⟨r, g, m, news, B, c, f⟩ := x
  exact landFly f fun h' f' u => h h' ⟨rest_heap r _, g, m, news, B, c.up hf f'.stays.1 u, f'⟩
theorem XRep.again {Q : Unit → Shared → Prop} (x : XRep fx σ W e cls .fly s) (hf : fx.fenv.frame = some fx.L)
    (h : ∀ h', XRep fx σ W e cls .fly { s with heap := h' } → Q () { s with heap := h' }) : wpAny M A (setFlight (.ref e) none) Q E s := by
  obtain ⟨r, g, m, news, B, c, f⟩ := x
  cases f with
  | fly f => exact lands_againW f fun h' f' u => h h' ⟨rest_heap r _, g, m, news, B, c.up hf f'.1 u, .fly f'⟩
theorem XRep.noted {Q : Value → Shared → Prop} (x : XRep fx σ W e cls k s) (hfr : A.frames = some (fx.fenv :: fx.outer)) (hf : fx.fenv.frame = some fx.L)
    (h : ∀ h', XRep fx σ W e cls .held { s with heap := h' } → Q (.ref e) { s with heap := h' }) : notedBy M A fx.fenv (cameBackBy M A fx.fenv Q) (.ref e) s := by
  obtain ⟨r, g, m, news, B, c, f⟩ := x
  exact notedFly hfr hf f fun h' f' u => h h' ⟨rest_heap r _, g, m, news, B, c.up hf f'.stays.1 u, f'⟩
end

end Mine

set_option autoImplicit false
namespace Mine
open PySem PySem.W PySem.Calls PySem.Spec PyProof.Rows

abbrev XP := Value → St → Prop

def PV (fx : Fx) (W : Wd) (Q : V → St → Prop) : Value → Shared → Prop := fun u s' => ∃ W' σ' v, W.le W' ∧ Rep fx σ' W' s' ∧ VR W' v u ∧ Q v σ'
def PX (fx : Fx) (W : Wd) (X : XP) : Value → Shared → Prop := fun u s => ∃ e cls k W' σ', u = .ref e ∧ W.le W' ∧ XRep fx σ' W' e cls k s ∧ X cls σ'
def PVs (fx : Fx) (W : Wd) (Q : List V → St → Prop) : List Value → Shared → Prop := fun us s' => ∃ W' σ' vs, W.le W' ∧ Rep fx σ' W' s' ∧ VRs W' vs us ∧ Q vs σ'
def PB (fx : Fx) (W : Wd) (Q : Bool → St → Prop) : Bool → Shared → Prop := fun b s' => ∃ W' σ', W.le W' ∧ Rep fx σ' W' s' ∧ Q b σ'
def PU (fx : Fx) (W : Wd) (Q : St → Prop) : Unit → Shared → Prop := fun _ s' => ∃ W' σ', W.le W' ∧ Rep fx σ' W' s' ∧ Q σ'

theorem PV.elim {fx : Fx} {W : Wd} {Q : V → St → Prop} {u : Value} {s : Shared} {P : Prop} (x : PV fx W Q u s) (k : ∀ W' σ' v, W.le W' → Rep fx σ' W' s → VR W' v u → Q v σ' → P) : P := by
  obtain ⟨W', σ', v, a, b, c, d⟩ := x
  exact k W' σ' v a b c d
theorem PVs.elim {fx : Fx} {W : Wd} {Q : List V → St → Prop} {u : List Value} {s : Shared} {P : Prop} (x : PVs fx W Q u s) (k : ∀ W' σ' v, W.le W' → Rep fx σ' W' s → VRs W' v u → Q v σ' → P) : P := by
  obtain ⟨W', σ', v, a, b, c, d⟩ := x
  exact k W' σ' v a b c d
theorem PB.elim {fx : Fx} {W : Wd} {Q : Bool → St → Prop} {u : Bool} {s : Shared} {P : Prop} (x : PB fx W Q u s) (k : ∀ W' σ', W.le W' → Rep fx σ' W' s → Q u σ' → P) : P := by
  obtain ⟨W', σ', a, b, c⟩ := x
  exact k W' σ' a b c
theorem PU.elim {fx : Fx} {W : Wd} {Q : St → Prop} {u : Unit} {s : Shared} {P : Prop} (x : PU fx W Q u s) (k : ∀ W' σ', W.le W' → Rep fx σ' W' s → Q σ' → P) : P := by
  obtain ⟨W', σ', a, b, c⟩ := x
  exact k W' σ' a b c
theorem PV.mono {fx : Fx} {W W' : Wd} {Q Q' : V → St → Prop} (h : W.le W') (hq : ∀ v σ, Q v σ → Q' v σ) {u : Value} {s : Shared} : PV fx W' Q u s → PV fx W Q' u s := by
  rintro ⟨W₁, σ, v, a, b, c, d⟩
  exact ⟨W₁, σ, v, h.trans a, b, c, hq _ _ d⟩
theorem PX.mono {fx : Fx} {W W' : Wd} {X X' : XP} (h : W.le W') (hx : ∀ c hp, X c hp → X' c hp) {u : Value} {s : Shared} : PX fx W' X u s → PX fx W X' u s := by
  rintro ⟨e, cls, k, W₁, σ, a, b, c, d⟩
  exact ⟨e, cls, k, W₁, σ, a, h.trans b, c, hx _ _ d⟩
/-- no exception -/
def X0 : XP := fun _ _ => False
theorem PX.never {fx : Fx} {W : Wd} {u : Value} {s : Shared} : PX fx W X0 u s → False := by
  rintro ⟨_, _, _, _, _, _, _, _, d⟩
  exact d
theorem PVs.mono {fx : Fx} {W W' : Wd} {Q Q' : List V → St → Prop} (h : W.le W') (hq : ∀ v σ, Q v σ → Q' v σ) {u : List Value} {s : Shared} : PVs fx W' Q u s → PVs fx W Q' u s := by
  rintro ⟨W₁, σ, v, a, b, c, d⟩
  exact ⟨W₁, σ, v, h.trans a, b, c, hq _ _ d⟩
theorem PB.mono {fx : Fx} {W W' : Wd} {Q Q' : Bool → St → Prop} (h : W.le W') (hq : ∀ v σ, Q v σ → Q' v σ) {u : Bool} {s : Shared} : PB fx W' Q u s → PB fx W Q' u s := by
  rintro ⟨W₁, σ, a, b, d⟩
  exact ⟨W₁, σ, h.trans a, b, hq _ _ d⟩
/-- an expression's run -/
def EvE (fx : Fx) (X : XP) (e : Expr) (σ : St) (Q : V → St → Prop) : Prop := ∀ W s, Rep fx σ W s → wpAny fx.M fx.A (eval e fx.env) (PV fx W Q) (PX fx W X) s
/-- the elements of a display, the arguments of a call -/
def EvEs (fx : Fx) (X : XP) (es : List Expr) (σ : St) (Q : List V → St → Prop) : Prop :=
  ∀ W s pos, Rep fx σ W s → wpAny fx.M fx.A (spliced (backTo pos (starEach es fx.env))) (PVs fx W Q) (PX fx W X) s
def EvB (fx : Fx) (X : XP) (e : Expr) (σ : St) (Q : Bool → St → Prop) : Prop := ∀ W s, Rep fx σ W s → wpAny fx.M fx.A (isTrue e fx.env (eval e fx.env)) (PB fx W Q) (PX fx W X) s

section
variable {fx : Fx} {X : XP} {σ : St}

theorem EvE.mono {e : Expr} {Q Q' : V → St → Prop} (h : EvE fx X e σ Q) (hq : ∀ v σ', Q v σ' → Q' v σ') : EvE fx X e σ Q' :=
  fun W s R => wpAny_mono (h W s R) (fun _ _ x => x.mono (.refl _) hq) fun _ _ x => x
theorem EvEs.mono {e : List Expr} {Q Q' : List V → St → Prop} (h : EvEs fx X e σ Q) (hq : ∀ v σ', Q v σ' → Q' v σ') : EvEs fx X e σ Q' :=
  fun W s p R => wpAny_mono (h W s p R) (fun _ _ x => x.mono (.refl _) hq) fun _ _ x => x
theorem EvB.mono {e : Expr} {Q Q' : Bool → St → Prop} (h : EvB fx X e σ Q) (hq : ∀ v σ', Q v σ' → Q' v σ') : EvB fx X e σ Q' :=
  fun W s R => wpAny_mono (h W s R) (fun _ _ x => x.mono (.refl _) hq) fun _ _ x => x

theorem PV.here {Q : V → St → Prop} {W : Wd} {s : Shared} {v : V} {u : Value} (R : Rep fx σ W s) (r : VR W v u) (q : Q v σ) : PV fx W Q u s := ⟨W, σ, v, .refl _, R, r, q⟩
theorem PB.here {Q : Bool → St → Prop} {W : Wd} {s : Shared} {b : Bool} (R : Rep fx σ W s) (q : Q b σ) : PB fx W Q b s := ⟨W, σ, .refl _, R, q⟩

theorem evConstInt {i : Int} {k : Nat} {pos : Pos} {Q : V → St → Prop} (h : Q (.int i) σ) : EvE fx X (.Constant (.int i) k pos) σ Q :=
  fun _ _ R => wpAny_Constant_int (.here (R.toks _) (.int _ _) h)
theorem evConstStr {x : Str} {k : Nat} {pos : Pos} {Q : V → St → Prop} (h : Q (.str x) σ) : EvE fx X (.Constant (.str x) k pos) σ Q :=
  fun _ _ R => Constant_str (.here (R.toks _) (.str _ _) h)
theorem evConstBool {b : Bool} {k : Nat} {pos : Pos} {Q : V → St → Prop} (h : Q (.bool b) σ) : EvE fx X (.Constant (.bool b) k pos) σ Q :=
  fun _ _ R => Constant_bool (.here R (.bool _) h)
theorem evConstNone {k : Nat} {pos : Pos} {Q : V → St → Prop} (h : Q .none σ) : EvE fx X (.Constant .none k pos) σ Q :=
  fun _ _ R => Constant_none (.here R .none h)

/-- the frame's own facts -/
structure FxOk (fx : Fx) : Prop where
  kind : fx.env.scope.kind = .function
  handled : fx.qt = true → fx.A.handled = none

theorem evName (ok : FxOk fx) {x : Str} {pos : Pos} {v : V} {Q : V → St → Prop} (hv : σ.loc x = some v) (h : Q v σ) (hd : (x == ("__debug__" : Str)) = false) (hc : (x == ("__classdict__" : Str)) = false) :
    EvE fx X (.Name x pos) σ Q := by
  intro W s R
  obtain ⟨_, g, m, news, G, F, N, C⟩ := id R
  obtain ⟨u, r, n⟩ := C.loc x v hv
  refine wpAny_Name ?_ hd
  cases n with
  | loc a b c => exact wpAny_loadName_local ok.kind a (by rw [b]; exact F.ns) c (.here R r h)
  | @comp o a b c =>
    obtain ⟨es, ep, c1, c2, c3⟩ := c
    exact wpAny_loadName_local (m := nsFind es) ok.kind a ⟨o, es, ep, (N _ (C.exs _ b)).1, c1, c2, fun _ => rfl⟩ c3 (.here R r h)
  | @cell c o a b d e =>
    rcases a with a | a
    · exact wpAny_loadName_cell ok.kind a b ⟨o, N.get d, e⟩ (.here R r h)
    · exact wpAny_loadName_free ok.kind a b ⟨o, N.get d, e⟩ (.here R r h) hc

def BinT (fx : Fx) (X : XP) (op : Operator) (a b : V) (σ : St) (Q : V → St → Prop) : Prop :=
  ∀ W s u₁ u₂, Rep fx σ W s → VR W a u₁ → VR W b u₂ → wpAny fx.M fx.A (binaryOp op u₁ u₂) (PV fx W Q) (PX fx W X) s
theorem evBin {l r : Expr} {op : Operator} {pos : Pos} {Q : V → St → Prop} (h : EvE fx X l σ (fun a σ₁ => EvE fx X r σ₁ (fun b σ₂ => BinT fx X op a b σ₂ Q))) : EvE fx X (.BinOp l op r pos) σ Q := by
  intro W s R
  refine wpAny_BinOp (wpAny_mono (h W s R) ?_ fun _ _ x => x)
  refine fun u₁ s₁ zz => zz.elim fun W₁ σ₁ a le₁ R₁ r₁ h₁ => ?_
  refine wpAny_mono (h₁ W₁ s₁ R₁) ?_ fun _ _ x => x.mono le₁ fun _ _ y => y
  refine fun u₂ s₂ zz => zz.elim fun W₂ σ₂ b le₂ R₂ r₂ h₂ => ?_
  exact wpAny_mono (h₂ W₂ s₂ u₁ u₂ R₂ (r₁.mono le₂) r₂) (fun _ _ x => x.mono (le₁.trans le₂) fun _ _ y => y) fun _ _ x => x.mono (le₁.trans le₂) fun _ _ y => y

def UnT (fx : Fx) (X : XP) (op : UnaryOp) (a : V) (σ : St) (Q : V → St → Prop) : Prop :=
  ∀ W s u, Rep fx σ W s → VR W a u → wpAny fx.M fx.A (unaryOp op u) (PV fx W Q) (PX fx W X) s
theorem evUn {l : Expr} {op : UnaryOp} {pos : Pos} {Q : V → St → Prop} (h : EvE fx X l σ (fun a σ₁ => UnT fx X op a σ₁ Q)) : EvE fx X (.UnaryOp op l pos) σ Q := by
  intro W s R
  refine UnaryOp_ (wpAny_mono (h W s R) ?_ fun _ _ x => x)
  refine fun u₁ s₁ zz => zz.elim fun W₁ σ₁ a le₁ R₁ r₁ h₁ => ?_
  exact wpAny_mono (h₁ W₁ s₁ u₁ R₁ r₁) (fun _ _ x => x.mono le₁ fun _ _ y => y) fun _ _ x => x.mono le₁ fun _ _ y => y

def TruT (fx : Fx) (X : XP) (a : V) (σ : St) (Q : Bool → St → Prop) : Prop :=
  ∀ W s u, Rep fx σ W s → VR W a u → wpAny fx.M fx.A (truthy u) (PB fx W Q) (PX fx W X) s

theorem evAnd {e₁ e₂ : Expr} {rest : List Expr} {pos : Pos} {Q : V → St → Prop}
    (h : EvE fx X e₁ σ (fun v σ₁ => TruT fx X v σ₁ (fun c σ₂ => if c then EvE fx X (.BoolOp .And (e₂ :: rest) pos) σ₂ Q else Q v σ₂))) : EvE fx X (.BoolOp .And (e₁ :: e₂ :: rest) pos) σ Q := by
  intro W s R
  refine BoolOp_and (wpAny_mono (h W s R) ?_ fun _ _ x => x)
  refine fun u₁ s₁ zz => zz.elim fun W₁ σ₁ a le₁ R₁ r₁ h₁ => ?_
  refine wpAny_mono (h₁ W₁ s₁ u₁ R₁ r₁) ?_ fun _ _ x => x.mono le₁ fun _ _ y => y
  refine fun c s₂ zz => zz.elim fun W₂ σ₂ le₂ R₂ h₂ => ?_
  cases c with
  | true => exact wpAny_mono (h₂ W₂ s₂ R₂) (fun _ _ x => x.mono (le₁.trans le₂) fun _ _ y => y) fun _ _ x => x.mono (le₁.trans le₂) fun _ _ y => y
  | false => exact ⟨W₂, σ₂, a, le₁.trans le₂, R₂, r₁.mono le₂, h₂⟩
theorem evBoolOne {op : BoolOp} {e : Expr} {pos : Pos} {Q : V → St → Prop} (h : EvE fx X e σ Q) : EvE fx X (.BoolOp op [e] pos) σ Q := fun W s R => BoolOp_one (h W s R)

def CmpT (fx : Fx) (X : XP) (op : CmpOp) (a b : V) (σ : St) (Q : V → St → Prop) : Prop :=
  ∀ W s u₁ u₂, Rep fx σ W s → VR W a u₁ → VR W b u₂ → wpAny fx.M fx.A (compareOp op u₁ u₂) (PV fx W Q) (PX fx W X) s
theorem evCmp1 {l r : Expr} {op : CmpOp} {pos : Pos} {Q : V → St → Prop} (h : EvE fx X l σ (fun a σ₁ => EvE fx X r σ₁ (fun b σ₂ => CmpT fx X op a b σ₂ Q))) (hm : behindInMarks op r = false) : EvE fx X (.Compare l [op] [r] pos) σ Q := by
  intro W s R
  refine wpAny_Compare1 (wpAny_mono (h W s R) ?_ fun _ _ x => x) hm
  refine fun u₁ s₁ zz => zz.elim fun W₁ σ₁ a le₁ R₁ r₁ h₁ => ?_
  refine wpAny_mono (h₁ W₁ s₁ R₁) ?_ fun _ _ x => x.mono le₁ fun _ _ y => y
  refine fun u₂ s₂ zz => zz.elim fun W₂ σ₂ b le₂ R₂ r₂ h₂ => ?_
  exact wpAny_mono (h₂ W₂ s₂ u₁ u₂ R₂ (r₁.mono le₂) r₂) (fun _ _ x => x.mono (le₁.trans le₂) fun _ _ y => y) fun _ _ x => x.mono (le₁.trans le₂) fun _ _ y => y
theorem evB_cmp1 {l r : Expr} {op : CmpOp} {pos : Pos} {Q : Bool → St → Prop} (h : EvE fx X l σ (fun a σ₁ => EvE fx X r σ₁ (fun b σ₂ => CmpT fx X op a b σ₂ (fun c σ₃ => TruT fx X c σ₃ Q)))) (hm : behindInMarks op r = false) : EvB fx X (.Compare l [op] [r] pos) σ Q := by
  intro W s R
  refine wpAny_isTrue_Compare1 (wpAny_mono (h W s R) ?_ fun _ _ x => x) hm
  refine fun u₁ s₁ zz => zz.elim fun W₁ σ₁ a le₁ R₁ r₁ h₁ => ?_
  refine wpAny_mono (h₁ W₁ s₁ R₁) ?_ fun _ _ x => x.mono le₁ fun _ _ y => y
  refine fun u₂ s₂ zz => zz.elim fun W₂ σ₂ b le₂ R₂ r₂ h₂ => ?_
  refine wpAny_mono (h₂ W₂ s₂ u₁ u₂ R₂ (r₁.mono le₂) r₂) ?_ fun _ _ x => x.mono (le₁.trans le₂) fun _ _ y => y
  refine fun u₃ s₃ zz => zz.elim fun W₃ σ₃ c le₃ R₃ r₃ h₃ => ?_
  exact wpAny_mono (h₃ W₃ s₃ u₃ R₃ r₃) (fun _ _ x => x.mono ((le₁.trans le₂).trans le₃) fun _ _ y => y) fun _ _ x => x.mono ((le₁.trans le₂).trans le₃) fun _ _ y => y

theorem evB_not {e : Expr} {pos : Pos} {Q : Bool → St → Prop} (h : EvB fx X e σ (fun c σ₁ => Q (!c) σ₁)) : EvB fx X (.UnaryOp .Not e pos) σ Q :=
  fun W s R => isTrue_not (wpAny_mono (h W s R) (fun _ _ ⟨W₁, σ₁, a, b, c⟩ => ⟨W₁, σ₁, a, b, c⟩) fun _ _ x => x)
theorem evB_and_nil {pos : Pos} {Q : Bool → St → Prop} (h : Q true σ) : EvB fx X (.BoolOp .And [] pos) σ Q := fun _ _ R => isTrue_and_nil (.here R h)
theorem evB_or_nil {pos : Pos} {Q : Bool → St → Prop} (h : Q false σ) : EvB fx X (.BoolOp .Or [] pos) σ Q := fun _ _ R => isTrue_or_nil (.here R h)
theorem evB_and {e : Expr} {rest : List Expr} {pos : Pos} {Q : Bool → St → Prop} (h : EvB fx X e σ (fun c σ₁ => if c then EvB fx X (.BoolOp .And rest pos) σ₁ Q else Q false σ₁)) : EvB fx X (.BoolOp .And (e :: rest) pos) σ Q := by
  intro W s R
  refine isTrue_and (wpAny_mono (h W s R) ?_ fun _ _ x => x)
  refine fun c s₁ zz => zz.elim fun W₁ σ₁ le₁ R₁ h₁ => ?_
  cases c with
  | true => exact wpAny_mono (h₁ W₁ s₁ R₁) (fun _ _ x => x.mono le₁ fun _ _ y => y) fun _ _ x => x.mono le₁ fun _ _ y => y
  | false => exact ⟨W₁, σ₁, le₁, R₁, h₁⟩
theorem evB_or {e : Expr} {rest : List Expr} {pos : Pos} {Q : Bool → St → Prop} (h : EvB fx X e σ (fun c σ₁ => if c then Q true σ₁ else EvB fx X (.BoolOp .Or rest pos) σ₁ Q)) : EvB fx X (.BoolOp .Or (e :: rest) pos) σ Q := by
  intro W s R
  refine isTrue_or (wpAny_mono (h W s R) ?_ fun _ _ x => x)
  refine fun c s₁ zz => zz.elim fun W₁ σ₁ le₁ R₁ h₁ => ?_
  cases c with
  | false => exact wpAny_mono (h₁ W₁ s₁ R₁) (fun _ _ x => x.mono le₁ fun _ _ y => y) fun _ _ x => x.mono le₁ fun _ _ y => y
  | true => exact ⟨W₁, σ₁, le₁, R₁, h₁⟩
theorem evB_plain {e : Expr} {Q : Bool → St → Prop} (h : EvE fx X e σ (fun v σ₁ => TruT fx X v σ₁ Q)) (he : ∀ env whole, isTrue e env whole = (do let v ← whole; standAt e.pos; holding [v] (truthy v))) : EvB fx X e σ Q := by
  intro W s R
  refine isTrue_plain (wpAny_mono (h W s R) ?_ fun _ _ x => x) (he _ _)
  refine fun u₁ s₁ zz => zz.elim fun W₁ σ₁ a le₁ R₁ r₁ h₁ => ?_
  exact wpAny_mono (h₁ W₁ s₁ u₁ R₁ r₁) (fun _ _ x => x.mono le₁ fun _ _ y => y) fun _ _ x => x.mono le₁ fun _ _ y => y

/-- arguments and elements -/
theorem evEs_nil {Q : List V → St → Prop} (h : Q [] σ) : EvEs fx X [] σ Q := fun W _ _ R => spliced_none ⟨W, σ, [], .refl _, R, .nil, h⟩
theorem evEs_cons {e : Expr} {rest : List Expr} {Q : List V → St → Prop} (h : EvE fx X e σ (fun v σ₁ => EvEs fx X rest σ₁ (fun vs σ₂ => Q (v :: vs) σ₂))) (hs : ∀ env, starEach (e :: rest) env = (false, eval e env) :: starEach rest env) : EvEs fx X (e :: rest) σ Q := by
  intro W s pos R
  refine spliced_more (wpAny_mono (h W s R) ?_ fun _ _ x => x) (hs _)
  refine fun u₁ s₁ zz => zz.elim fun W₁ σ₁ a le₁ R₁ r₁ h₁ => ?_
  refine wpAny_mono (h₁ W₁ s₁ pos R₁) ?_ fun _ _ x => x.mono le₁ fun _ _ y => y
  refine fun us s₂ zz => zz.elim fun W₂ σ₂ vs le₂ R₂ r₂ h₂ => ?_
  exact ⟨W₂, σ₂, a :: vs, le₁.trans le₂, R₂, .cons (r₁.mono le₂) r₂, h₂⟩

theorem evTuple {es : List Expr} {k : Nat} {pos : Pos} {Q : V → St → Prop} (h : EvEs fx X es σ (fun vs σ₁ => vs.length ≤ sizeLine ∧ Q (.tup vs) σ₁)) : EvE fx X (.Tuple es k pos) σ Q := by
  intro W s R
  refine Tuple_ (wpAny_mono (h W s pos R) ?_ fun _ _ x => x)
  rintro us s₁ ⟨W₁, σ₁, vs, le₁, R₁, r₁, h₁, h₂⟩
  obtain ⟨W₂, le₂, hm, R₂⟩ := R₁.newTup us s₁.toks
  exact wpAny_newObj_type ⟨W₂, σ₁, .tup vs, le₁.trans le₂, R₂, .tup hm (r₁.mono le₂), h₂⟩ (by show us.toArray.size ≤ sizeLine; rw [List.size_toArray, ← r₁.length]; exact h₁)
theorem evList {es : List Expr} {pos : Pos} {Q : V → St → Prop} (h : EvEs fx X es σ (fun vs σ₁ => vs.length ≤ sizeLine ∧ Q (.ref σ₁.hp.length) ⟨σ₁.loc, σ₁.hp ++ [.list vs]⟩)) : EvE fx X (.List es pos) σ Q := by
  intro W s R
  refine List_ (wpAny_mono (h W s pos R) ?_ fun _ _ x => x)
  rintro us s₁ ⟨W₁, σ₁, vs, le₁, R₁, r₁, h₁, h₂⟩
  obtain ⟨W₂, le₂, hm, R₂⟩ := R₁.alloc (o := .list vs) (ob := listObj us 0) s₁.toks rfl fun W' le => .list 0 (r₁.mono le)
  refine wpAny_newObj_type ⟨W₂, _, .ref σ₁.hp.length, le₁.trans le₂, R₂, .ref ?_, h₂⟩ (by show us.toArray.size ≤ sizeLine; rw [List.size_toArray, ← r₁.length]; exact h₁)
  refine R₁.elim fun _ g m news G F N C => ?_
  rw [hm, ← C.len]
  simp
end
end Mine

set_option autoImplicit false
namespace Mine
open PySem PySem.W PySem.Calls PySem.Spec PyProof.Rows

def Fx.pushL (fx : Fx) (ps : List (Addr × Obj)) : Fx := { fx with ex := ps ++ fx.ex }

structure ExOk (fx : Fx) (ps : List (Addr × Obj)) : Prop where
  nd : (ps.map (·.1)).Nodup
  dis : ∀ p ∈ fx.ex, p.1 ∉ ps.map (·.1)
  cel : ∀ x c, fx.env.cells.lookup x = some c → c ∉ ps.map (·.1)
  loc : fx.env.locals ∉ ps.map (·.1)

theorem mem_keys {ps : List (Addr × Obj)} {a : Addr} (h : a ∈ ps.map (·.1)) : ∃ o, (a, o) ∈ ps := by
  obtain ⟨p, hp, rfl⟩ := List.mem_map.mp h
  exact ⟨p.2, hp⟩

theorem nodup_filter_keys {news : List (Addr × Obj)} (nd : (news.map (·.1)).Nodup) (f : Addr × Obj → Bool) : ((news.filter f).map (·.1)).Nodup :=
  (List.filter_sublist.map _).nodup nd

/-- the frame's own things change, the rest stays -/
theorem Rep.exSwap {fx : Fx} {σ : St} {W : Wd} {s : Shared} {ps : List (Addr × Obj)} (R : Rep (fx.pushL ps) σ W s) (ok : ExOk fx ps) (ps' : List (Addr × Obj)) (hk : ps'.map (·.1) = ps.map (·.1)) (tk : Nat) {h' : Heap}
    (hs : ∀ b o, b ∉ ps.map (·.1) → s.heap.get? b = some o → h'.get? b = some o) (hg : ∀ p ∈ ps', h'.get? p.1 = some p.2) : Rep (fx.pushL ps') σ W { s with heap := h', toks := tk } := by
  refine R.elim fun e g m news G F N C => ?_
  have hpn : ∀ p ∈ ps, p ∈ news := fun p hp => C.exs p (List.mem_append_left _ hp)
  have hin : ∀ a ∈ ps.map (·.1), a ≠ fx.L ∧ g.get? a = none := fun a ha => by
    obtain ⟨o, ho⟩ := mem_keys ha
    exact (N _ (hpn _ ho)).2
  have hL : fx.L ∉ ps.map (·.1) := fun q => (hin _ q).1 rfl
  have hal : ∀ a ∈ W.al, a ∉ ps.map (·.1) := fun a ha q => by
    obtain ⟨o, ho⟩ := mem_keys q
    exact C.exd _ (List.mem_append_left _ ho) ha
  let f : Addr × Obj → Bool := fun p => decide (p.1 ∉ ps.map (·.1))
  have keepM : ∀ p ∈ news, p.1 ∉ ps.map (·.1) → p ∈ ps' ++ news.filter f := fun p hp q => List.mem_append_right _ (List.mem_filter.mpr ⟨hp, by simpa [f] using q⟩)
  refine ⟨rest_with e _ _, g, m, ps' ++ news.filter f, G, ⟨F.ns.at' fun o q => hs _ o hL q, fun b o q => hs b o (fun z => ?_) (F.keep b o q), F.above⟩, fun p hp => ?_, ?_⟩
  · have := (hin b z).2
    rw [show g.get? b = some o from q] at this; cases this
  · rcases List.mem_append.mp hp with hp | hp
    · exact ⟨hg p hp, hin p.1 (hk ▸ List.mem_map_of_mem hp)⟩
    · obtain ⟨h1, h2⟩ := List.mem_filter.mp hp
      exact ⟨hs _ _ (by simpa [f] using h2) (N p h1).1, (N p h1).2⟩
  refine ⟨?_, fun p hp => ?_, fun p hp => ?_, C.aln, C.len, fun i o h => ?_, fun t ht' => ?_, fun x v h => ?_, fun x c h => ?_, C.scc, C.mfx, fun p hp t ht' => ?_⟩
  · rw [List.map_append]
    refine List.nodup_append.mpr ⟨hk ▸ ok.nd, nodup_filter_keys C.nd f, fun a ha b hb q => ?_⟩
    rw [hk] at ha
    obtain ⟨p, hp, rfl⟩ := List.mem_map.mp hb
    have := (List.mem_filter.mp hp).2
    simp only [f, decide_eq_true_eq] at this
    exact this (q ▸ ha)
  · rcases List.mem_append.mp hp with hp | hp
    · exact List.mem_append_left _ hp
    · exact keepM p (C.exs p (List.mem_append_right _ hp)) (ok.dis p hp)
  · rcases List.mem_append.mp hp with hp | hp
    · exact fun q => hal _ q (hk ▸ List.mem_map_of_mem hp)
    · exact C.exd p (List.mem_append_right _ hp)
  · obtain ⟨a, ob, h1, h2, h3⟩ := C.obs i o h
    exact ⟨a, ob, h1, keepM _ h2 (hal a (List.mem_of_getElem? h1)), h3⟩
  · refine keepM _ (C.tps t ht') fun q => ?_
    obtain ⟨o, ho⟩ := mem_keys q
    exact C.ext _ (List.mem_append_left _ ho) t ht' rfl
  · obtain ⟨u, h1, h2⟩ := C.loc x v h
    refine ⟨u, h1, ?_⟩
    cases h2 with
    | loc a b c => exact .loc a b c
    | @comp o a b c =>
      refine .comp (o := o) a (List.mem_append_right _ ?_) c
      rcases List.mem_append.mp b with b | b
      · exact absurd (List.mem_map_of_mem (f := (·.1)) b) ok.loc
      · exact b
    | cell a b c d => exact .cell a b (keepM _ c (ok.cel x _ b)) d
  · obtain ⟨h1, o, v, h2, h3⟩ := C.cel x c h
    exact ⟨h1, o, v, keepM _ h2 (ok.cel x c h), h3⟩
  · rcases List.mem_append.mp hp with hp | hp
    · obtain ⟨o, ho⟩ := mem_keys (ps := ps) (a := p.1) (by rw [← hk]; exact List.mem_map_of_mem (f := (·.1)) hp)
      exact C.ext _ (List.mem_append_left _ ho) t ht'
    · exact C.ext p (List.mem_append_right _ hp) t ht'

theorem Rep.exDrop {fx : Fx} {σ : St} {W : Wd} {s : Shared} {ps : List (Addr × Obj)} (R : Rep (fx.pushL ps) σ W s) (ok : ExOk fx ps) (tk : Nat) {h' : Heap}
    (hs : ∀ b o, b ∉ ps.map (·.1) → s.heap.get? b = some o → h'.get? b = some o) : Rep fx σ W { s with heap := h', toks := tk } := by
  refine R.elim fun e g m news G F N C => ?_
  have hpn : ∀ p ∈ ps, p ∈ news := fun p hp => C.exs p (List.mem_append_left _ hp)
  have hin : ∀ a ∈ ps.map (·.1), a ≠ fx.L ∧ g.get? a = none := fun a ha => by
    obtain ⟨o, ho⟩ := mem_keys ha
    exact (N _ (hpn _ ho)).2
  have hL : fx.L ∉ ps.map (·.1) := fun q => (hin _ q).1 rfl
  have hal : ∀ a ∈ W.al, a ∉ ps.map (·.1) := fun a ha q => by
    obtain ⟨o, ho⟩ := mem_keys q
    exact C.exd _ (List.mem_append_left _ ho) ha
  let f : Addr × Obj → Bool := fun p => decide (p.1 ∉ ps.map (·.1))
  have keepM : ∀ p ∈ news, p.1 ∉ ps.map (·.1) → p ∈ news.filter f := fun p hp q => List.mem_filter.mpr ⟨hp, by simpa [f] using q⟩
  refine ⟨rest_with e _ _, g, m, news.filter f, G, ⟨F.ns.at' fun o q => hs _ o hL q, fun b o q => hs b o (fun z => ?_) (F.keep b o q), F.above⟩, fun p hp => ?_, ?_⟩
  · have := (hin b z).2
    rw [show g.get? b = some o from q] at this; cases this
  · obtain ⟨h1, h2⟩ := List.mem_filter.mp hp
    exact ⟨hs _ _ (by simpa [f] using h2) (N p h1).1, (N p h1).2⟩
  refine ⟨nodup_filter_keys C.nd f, fun p hp => keepM p (C.exs p (List.mem_append_right _ hp)) (ok.dis p hp), fun p hp => C.exd p (List.mem_append_right _ hp), C.aln, C.len, fun i o h => ?_, fun t ht' => ?_, fun x v h => ?_, fun x c h => ?_, C.scc, C.mfx, fun p hp t ht' => C.ext p (List.mem_append_right _ hp) t ht'⟩
  · obtain ⟨a, ob, h1, h2, h3⟩ := C.obs i o h
    exact ⟨a, ob, h1, keepM _ h2 (hal a (List.mem_of_getElem? h1)), h3⟩
  · refine keepM _ (C.tps t ht') fun q => ?_
    obtain ⟨o, ho⟩ := mem_keys q
    exact C.ext _ (List.mem_append_left _ ho) t ht' rfl
  · obtain ⟨u, h1, h2⟩ := C.loc x v h
    refine ⟨u, h1, ?_⟩
    cases h2 with
    | loc a b c => exact .loc a b c
    | @comp o a b c =>
      refine .comp (o := o) a ?_ c
      rcases List.mem_append.mp b with b | b
      · exact absurd (List.mem_map_of_mem (f := (·.1)) b) ok.loc
      · exact b
    | cell a b c d => exact .cell a b (keepM _ c (ok.cel x _ b)) d
  · obtain ⟨h1, o, v, h2, h3⟩ := C.cel x c h
    exact ⟨h1, o, v, keepM _ h2 (ok.cel x c h), h3⟩

theorem Rep.exPush {fx : Fx} {σ : St} {W : Wd} {s : Shared} (R : Rep fx σ W s) (ps : List (Addr × Obj)) (nd : (ps.map (·.1)).Nodup) (tk : Nat) {h' : Heap}
    (hs : ∀ b o, s.heap.get? b = some o → h'.get? b = some o) (hf : ∀ p ∈ ps, s.heap.objs.size ≤ p.1) (hg : ∀ p ∈ ps, h'.get? p.1 = some p.2) (hl : ∃ o, s.heap.get? fx.env.locals = some o) :
    Rep (fx.pushL ps) σ W { s with heap := h', toks := tk } ∧ ExOk fx ps := by
  refine R.elim fun e g m news G F N C => ?_
  have old : ∀ a o, s.heap.get? a = some o → a ∉ ps.map (·.1) := fun a o h q => by
    obtain ⟨o', ho⟩ := mem_keys q
    exact Nat.not_lt.mpr (hf _ ho) (Heap.lt_size h)
  have oldN : ∀ p ∈ news, p.1 ∉ ps.map (·.1) := fun p hp => old _ _ (N p hp).1
  obtain ⟨oL, _, _, hL, _⟩ := F.ns
  refine ⟨⟨rest_with e _ _, g, m, ps ++ news, G, frKeeps F hs, fun p hp => ?_, ?_⟩, nd, fun p hp => oldN p (C.exs p hp), fun x c h => ?_, ?_⟩
  · rcases List.mem_append.mp hp with hp | hp
    · refine ⟨hg p hp, fun q => old _ _ hL ?_, ?_⟩
      · have := List.mem_map_of_mem (f := (·.1)) hp
        rw [q] at this
        exact this
      · cases q : g.get? p.1 with
        | none => rfl
        | some o => exact absurd (List.mem_map_of_mem (f := (·.1)) hp) (old _ _ (F.keep _ _ q))
    · exact ⟨hs _ _ (N p hp).1, (N p hp).2⟩
  · refine ⟨?_, fun p hp => ?_, fun p hp => ?_, C.aln, C.len, fun i o h => ?_, fun t ht => List.mem_append_right _ (C.tps t ht), fun x v h => ?_, fun x c h => ?_, C.scc, C.mfx, fun p hp t ht' => ?_⟩
    · rw [List.map_append]
      refine List.nodup_append.mpr ⟨nd, C.nd, fun a ha b hb q => ?_⟩
      obtain ⟨p, hp, rfl⟩ := List.mem_map.mp hb
      exact oldN p hp (q ▸ ha)
    · rcases List.mem_append.mp hp with hp | hp
      · exact List.mem_append_left _ hp
      · exact List.mem_append_right _ (C.exs p hp)
    · rcases List.mem_append.mp hp with hp | hp
      · intro q
        obtain ⟨o, ho⟩ := C.al_lt q
        exact oldN _ ho (List.mem_map_of_mem (f := (·.1)) hp)
      · exact C.exd p hp
    · obtain ⟨a, ob, h1, h2, h3⟩ := C.obs i o h
      exact ⟨a, ob, h1, List.mem_append_right _ h2, h3⟩
    · obtain ⟨u, h1, h2⟩ := C.loc x v h
      refine ⟨u, h1, ?_⟩
      cases h2 with
      | loc a b c => exact .loc a b c
      | comp a b c => exact .comp a (List.mem_append_right _ b) c
      | cell a b c d => exact .cell a b (List.mem_append_right _ c) d
    · obtain ⟨h1, o, v, h2, h3⟩ := C.cel x c h
      exact ⟨h1, o, v, List.mem_append_right _ h2, h3⟩
    · rcases List.mem_append.mp hp with hp | hp
      · intro q
        exact oldN _ (C.tps t ht') (q ▸ List.mem_map_of_mem (f := (·.1)) hp)
      · exact C.ext p hp t ht'
  · obtain ⟨_, o, v, h2, _⟩ := C.cel x c h
    exact oldN _ h2
  · obtain ⟨o, ho⟩ := hl
    exact old _ _ ho

theorem Rep.exPop {fx : Fx} {σ : St} {W : Wd} {s : Shared} {ps : List (Addr × Obj)} (R : Rep (fx.pushL ps) σ W s) {p : Addr × Obj} (hp : p ∈ ps) : s.heap.get? p.1 = some p.2 := by
  refine R.elim fun _ g m news G F N C => ?_
  exact (N p (C.exs p (List.mem_append_left _ hp))).1

end Mine

set_option autoImplicit false
namespace Mine
open PySem PySem.W PySem.Calls PySem.Spec PyProof.Rows

inductive Fl where
  | next | brk | cont
  | ret (v : V)
inductive FlR (W : Wd) : Fl → Flow → Prop
  | next : FlR W .next .next
  | brk : FlR W .brk .brk
  | cont : FlR W .cont .cont
  | ret {v : V} {u : Value} : VR W v u → FlR W (.ret v) (.ret u)

def PF (fx : Fx) (W : Wd) (Q : Fl → St → Prop) : Flow → Shared → Prop := fun f s' => ∃ W' σ' fl, W.le W' ∧ Rep fx σ' W' s' ∧ FlR W' fl f ∧ Q fl σ'
theorem PF.elim {fx : Fx} {W : Wd} {Q : Fl → St → Prop} {u : Flow} {s : Shared} {P : Prop} (x : PF fx W Q u s) (k : ∀ W' σ' v, W.le W' → Rep fx σ' W' s → FlR W' v u → Q v σ' → P) : P := by
  obtain ⟨W', σ', v, a, b, c, d⟩ := x
  exact k W' σ' v a b c d
theorem PF.mono {fx : Fx} {W W' : Wd} {Q Q' : Fl → St → Prop} (h : W.le W') (hq : ∀ v σ, Q v σ → Q' v σ) {u : Flow} {s : Shared} : PF fx W' Q u s → PF fx W Q' u s := by
  rintro ⟨W₁, σ, v, a, b, c, d⟩
  exact ⟨W₁, σ, v, h.trans a, b, c, hq _ _ d⟩

def EvS (fx : Fx) (X : XP) (st : Stmt) (σ : St) (Q : Fl → St → Prop) : Prop := ∀ W s, Rep fx σ W s → wpAny fx.M fx.A (exec st fx.env) (PF fx W Q) (PX fx W X) s
def EvSs (fx : Fx) (X : XP) (ss : List Stmt) (σ : St) (Q : Fl → St → Prop) : Prop := ∀ W s, Rep fx σ W s → wpAny fx.M fx.A (execs ss fx.env) (PF fx W Q) (PX fx W X) s

/-- what holds of a frame -/
structure FxAll (fx : Fx) : Prop where
  ok : FxOk fx
  locs : fx.env.locals = fx.L ∨ ∃ o, (fx.env.locals, o) ∈ fx.ex
  cex : fx.env.locals = fx.L → ∀ x c, fx.env.cells.lookup x = some c → ∀ p ∈ fx.ex, p.1 ≠ c
  cinj : ∀ x y c, fx.env.cells.lookup x = some c → fx.env.cells.lookup y = some c → x = y
  cdef : ∀ x, fx.env.kindOf x = some .cell → fx.env.cells.lookup x ≠ none
  scr : ∃ xs n o, fx.base.get? fx.sc = some o ∧ o.cls = .type "list" ∧ o.data = .seq (List.toArray xs) n ∧ IntsAre xs fx.ns ∧ fx.ns.length < 2 ^ 62
  egl : fx.env.globals = mainGlobals
  ebu : fx.env.builtins = builtinsNs
  top : Top fx.pg.p fx.pg.loose fx.pg.mean fx.pg.mg fx.pg.mb fx.base
  part : fx.pg.K.In fx.base
  below : Below fx.A₀ fx.base fx.outer fx.h₀
  dicts : KtsDicts (fx.outer.filterMap (·.frame)) fx.h₀
  frs : fx.A.frames = some (fx.fenv :: fx.outer)
  ffr : fx.fenv.frame = some fx.L
  fkd : fx.fenv.scope.kind = .function
  depth : fx.A.depth + fx.lev < recursionLimit
  room : fx.A.units + 8 * fx.lev + 100 < cLine
  mfn : fx.env.locals = fx.L → fx.mfix = none
  envf : fx.env.locals = fx.L → fx.env = fx.fenv

theorem FxAll.units {fx : Fx} (a : FxAll fx) : fx.A.units + 100 < cLine := by have := a.room; omega

theorem FxAll.ground {fx : Fx} (a : FxAll fx) {g : Heap} (G : KtsTurn (fx.outer.filterMap (·.frame)) fx.h₀ g) : Below fx.A₀ fx.base fx.outer g ∧ KtsDicts (fx.outer.filterMap (·.frame)) g := by
  have K := a.below
  refine ⟨⟨K.stack, fun b o e => G.other b o (K.stays b o e) (fun hm => ?_), K.frames.of_keeps fun b o e _ => ?_⟩, a.dicts.turn G⟩
  · rw [(K.frames.mem hm).1] at e
    cases e
  · obtain ⟨sl, hs⟩ := G.up e
    exact ⟨_, hs, rfl⟩
theorem FxAll.stays {fx : Fx} (a : FxAll fx) {σ : St} {W : Wd} {s : Shared} (R : Rep fx σ W s) : ∀ b o, fx.base.get? b = some o → s.heap.get? b = some o := by
  refine R.elim fun _ g m news G F N C => ?_
  exact fun b o e => F.keep b o ((a.ground G).1.stays b o e)

theorem FxAll.glbAt {fx : Fx} (a : FxAll fx) {A : Around} (x : Str) (v : Value) (pos : Pos) (h : fx.pg.gl x = some v) (hk : fx.env.kindOf x = some .globalImplicit) (s : Shared) (Q : Value → Shared → Prop) (E : Value → Shared → Prop) (st : ∀ b o, fx.base.get? b = some o → s.heap.get? b = some o) (q : Q v s)
    (hd : (x == ("__debug__" : Str)) = false) : wpAny fx.M A (eval (.Name x pos) fx.env) Q E s := by
  unfold Pg.gl at h
  split at h
  · rename_i v' e
    cases h
    exact Name_function_global a.ok.kind hk (loadGlobal_global (by rw [a.egl]; exact a.top.g.keeps st) (mg_of a.part a.top.g e) q) hd
  · rename_i e
    split at h
    · cases h
    · rename_i hn
      exact Name_function_global a.ok.kind hk (loadGlobal_builtin (by rw [a.egl]; exact a.top.g.keeps st) (mg_none_of a.part a.top.g e) (by rw [a.ebu]; exact a.top.b.keeps st) ((a.top.builtins x hn).trans h) q) hd
  · cases h
theorem FxAll.glb {fx : Fx} (a : FxAll fx) (x : Str) (v : Value) (pos : Pos) (h : fx.pg.gl x = some v) (hk : fx.env.kindOf x = some .globalImplicit) (σ : St) (W : Wd) (s : Shared) (Q : Value → Shared → Prop) (E : Value → Shared → Prop) (R : Rep fx σ W s) (q : Q v s)
    (hd : (x == ("__debug__" : Str)) = false) : wpAny fx.M fx.A (eval (.Name x pos) fx.env) Q E s := a.glbAt x v pos h hk s Q E (a.stays R) q hd

theorem Core.unpush {fx : Fx} {σ : St} {W : Wd} {m : Str → Option Value} {news ps : List (Addr × Obj)} (C : Core (fx.pushL ps) σ W m news) (hl : fx.env.locals ∉ ps.map (·.1)) : Core fx σ W m news := by
  refine ⟨C.nd, fun p hp => C.exs p (List.mem_append_right _ hp), fun p hp => C.exd p (List.mem_append_right _ hp), C.aln, C.len, C.obs, C.tps, fun x v h => ?_, C.cel, C.scc, C.mfx, fun p hp t ht => C.ext p (List.mem_append_right _ hp) t ht⟩
  obtain ⟨u, h1, h2⟩ := C.loc x v h
  refine ⟨u, h1, ?_⟩
  cases h2 with
  | loc a b c => exact .loc a b c
  | comp a b c =>
    refine .comp a ?_ c
    rcases List.mem_append.mp b with b | b
    · exact absurd (List.mem_map_of_mem (f := (·.1)) b) hl
    · exact b
  | cell a b c d => exact .cell a b c d
theorem PX.pushL {fx : Fx} {ps : List (Addr × Obj)} (hl : fx.env.locals ∉ ps.map (·.1)) {W : Wd} {X : XP} {u : Value} {s : Shared} : PX (fx.pushL ps) W X u s → PX fx W X u s := by
  rintro ⟨e, cls, k, W', σ', a, b, ⟨r, g, m, news, B, c, f⟩, d⟩
  exact ⟨e, cls, k, W', σ', a, b, ⟨r, g, m, news, B, ⟨c.turn, c.dic, c.size, c.ns, c.gB, c.fr, c.nw, c.core.unpush hl, c.base⟩, f⟩, d⟩
/-- what stands between a frame's exceptional end and its loops' -/
theorem PX.noted {fx : Fx} (ok : FxAll fx) (hL : fx.env.locals = fx.L) {W : Wd} {X : XP} {u : Value} {s : Shared} : PX fx W X u s → notedBy fx.M fx.A fx.env (cameBackBy fx.M fx.A fx.env (PX fx W X)) u s := by
  rintro ⟨e, cls, k, W', σ', rfl, b, x, d⟩
  rw [ok.envf hL]
  exact x.noted ok.frs ok.ffr fun h' x' => ⟨e, cls, _, W', σ', rfl, b, x', d⟩

theorem XRep.stays {fx : Fx} {σ : St} {W : Wd} {e : Addr} {cls : Value} {k : Kd} {s : Shared} (x : XRep fx σ W e cls k s) : ∀ b o, fx.base.get? b = some o → s.heap.get? b = some o := by
  obtain ⟨r, g, m, news, B, c, f⟩ := x
  exact fun b o q => f.stays.1 b o (c.base b o q)
theorem XRep.raise {fx : Fx} (ok : FxAll fx) {σ : St} {W : Wd} {s : Shared} (R : Rep fx σ W s) {h' : Heap} {e : Addr} {cls : Value} {vs : List Value} (hx : Heap.MadeExcOf s.heap h' e cls vs) : XRep fx σ W e cls .made { s with heap := h' } := by
  refine R.elim fun r g m news G F N C => ?_
  obtain ⟨BL, D⟩ := ok.ground G
  have K' := pushX BL F ok.ffr ok.fkd
  have hin : ∀ env ∈ (fx.fenv :: fx.outer), ∀ b, env.frame = some b → b ∈ (fx.fenv :: fx.outer).filterMap (·.frame) := fun env he b hb => List.mem_filterMap.mpr ⟨env, he, hb⟩
  obtain ⟨t, ht, _, _⟩ := hx.there
  refine ⟨rest_heap r _, g, m, news, hideAll s.heap ((fx.fenv :: fx.outer).filterMap (·.frame)), ⟨G, D, F.above, F.ns.keeps hx.keeps, fun b o e nm => hideAll_get _ (F.keep b o e) nm, fun b o e => ⟨o.slots, hx.keeps _ _ (F.keep b o e)⟩, fun p hp => ⟨hideAll_get _ (N p hp).1 ?_, (N p hp).2⟩, C, ?_⟩,
    .made (fun b o e => hx.keeps b o (of_hideAll _ e)) ?_ ((funFrames_hide K'.frames hin).of_keeps fun b o e _ => ⟨o, hx.keeps b o e, rfl⟩) ht rfl rfl rfl rfl⟩
  · intro hm
    rcases mem_frames ok.ffr hm with z | z
    · exact (N p hp).2.1 z
    · obtain ⟨o, es, n, h1, _⟩ := D _ z
      rw [(N p hp).2.2] at h1
      cases h1
  · exact fun b o q => hideAll_get _ (K'.stays b o q) fun hm => by rw [(K'.frames.mem hm).1] at q; cases q
  · cases q : (hideAll s.heap ((fx.fenv :: fx.outer).filterMap (·.frame))).get? e with
    | none => rfl
    | some o => have := of_hideAll _ q; rw [hx.new] at this; cases this
theorem XRep.catch {fx : Fx} (ok : FxAll fx) {σ : St} {W : Wd} {s : Shared} {e : Addr} {cls : Value} (x : XRep fx σ W e cls .fly s) :
    Rep fx σ W s ∧ ∀ C, cls = .ref C → Rep fx ⟨σ.loc, σ.hp ++ [.exn C]⟩ ⟨W.al ++ [e], W.tp, W.sc⟩ s ∧ VR ⟨W.al ++ [e], W.tp, W.sc⟩ (.ref σ.hp.length) (.ref e) := by
  obtain ⟨r, g, m, news, B, c, f⟩ := x
  have st := f.stays
  obtain ⟨oe, vs, he, hc, hd⟩ := f.there
  obtain ⟨T, S⟩ := kts_turn_at (h := s.heap) (fs := fx.outer.filterMap (·.frame)) (g := g) (fun b hb => let ⟨o, es, n, h1, _⟩ := c.dic b hb; ⟨o, h1⟩)
    (fun b o e nm => st.1 b o (c.gB b o e (fun hm => by
      rcases mem_frames ok.ffr hm with z | z
      · rw [z, ground_self c.size] at e; cases e
      · exact nm z))) (fun b o e _ => c.fr b o e)
  have F : Fr (ktsHeap s.heap (fx.outer.filterMap (·.frame)) g) fx.L s.heap m := ⟨c.ns, S, by rw [T.size]; exact c.size⟩
  have N : News (ktsHeap s.heap (fx.outer.filterMap (·.frame)) g) fx.L s.heap news := fun p hp => ⟨st.1 _ _ (c.nw p hp).1, (c.nw p hp).2.1, T.none_ _ (c.nw p hp).2.2⟩
  refine ⟨⟨r, _, m, news, c.turn.trans T, F, N, c.core⟩, fun C hC => ⟨⟨r, _, m, (e, oe) :: news, c.turn.trans T, F, fun p hp => ?_, c.core.add (fun p hp q => ?_) fun W' _ => .exn (hc.trans hC) hd⟩, .ref (by rw [← c.core.len]; simp)⟩⟩
  · rcases List.mem_cons.mp hp with rfl | hp
    · refine ⟨he, fun q => ?_, T.none_ _ ?_⟩
      · obtain ⟨oL, es, ep, h1, h2, _⟩ := c.ns
        dsimp only at q
        rw [← q, he] at h1
        cases h1
        rw [hd] at h2
        cases h2
      · dsimp only
        cases q : g.get? e with
        | none => rfl
        | some o =>
          by_cases z : e ∈ (fx.fenv :: fx.outer).filterMap (·.frame)
          · rcases mem_frames ok.ffr z with y | y
            · rw [y, ground_self c.size] at q; cases q
            · obtain ⟨o', es, n, e1, e2⟩ := c.dic e y
              rw [q] at e1
              cases e1
              obtain ⟨sl, e3⟩ := c.fr e o q
              rw [he] at e3
              cases e3
              rw [show ({ o with slots := sl } : Obj).data = o.data from rfl, e2] at hd
              cases hd
          · have := c.gB e o q z
            rw [st.2] at this
            cases this
    · exact N p hp
  · have := (c.nw p hp).1
    rw [q, st.2] at this
    cases this

theorem Rep.unpush {fx : Fx} {σ : St} {W : Wd} {s : Shared} {ps : List (Addr × Obj)} (R : Rep (fx.pushL ps) σ W s) (hl : fx.env.locals ∉ ps.map (·.1)) : Rep fx σ W s := by
  refine R.elim fun e g m news G F N C => ?_
  refine ⟨e, g, m, news, G, F, N, C.nd, fun p hp => C.exs p (List.mem_append_right _ hp), fun p hp => C.exd p (List.mem_append_right _ hp), C.aln, C.len, C.obs, C.tps, fun x v h => ?_, C.cel, C.scc, C.mfx, fun p hp t ht => C.ext p (List.mem_append_right _ hp) t ht⟩
  obtain ⟨u, h1, h2⟩ := C.loc x v h
  refine ⟨u, h1, ?_⟩
  cases h2 with
  | loc a b c => exact .loc a b c
  | comp a b c =>
    refine .comp a ?_ c
    rcases List.mem_append.mp b with b | b
    · exact absurd (List.mem_map_of_mem (f := (·.1)) b) hl
    · exact b
  | cell a b c d => exact .cell a b c d

theorem FxAll.pushL {fx : Fx} (a : FxAll fx) {ps : List (Addr × Obj)} (ok : ExOk fx ps) : FxAll (fx.pushL ps) where
  ok := ⟨a.ok.kind, a.ok.handled⟩
  locs := a.locs.imp id fun ⟨o, h⟩ => ⟨o, List.mem_append_right _ h⟩
  cex := fun hL x c h p hp => by
    rcases List.mem_append.mp hp with hp | hp
    · exact fun q => ok.cel x c h (q ▸ List.mem_map_of_mem (f := (·.1)) hp)
    · exact a.cex hL x c h p hp
  cinj := a.cinj
  cdef := a.cdef
  scr := a.scr
  egl := a.egl
  ebu := a.ebu
  top := a.top
  part := a.part
  below := a.below
  dicts := a.dicts
  frs := a.frs
  ffr := a.ffr
  fkd := a.fkd
  depth := a.depth
  room := a.room
  mfn := a.mfn
  envf := a.envf

theorem Rep.locals_at {fx : Fx} (a : FxAll fx) {σ : St} {W : Wd} {s : Shared} (R : Rep fx σ W s) : ∃ o, s.heap.get? fx.env.locals = some o := by
  refine R.elim fun _ g m news G F N C => ?_
  rcases a.locs with h | ⟨o, h⟩
  · obtain ⟨oL, _, _, hL, _⟩ := F.ns
    exact ⟨oL, h ▸ hL⟩
  · exact ⟨o, (N _ (C.exs _ h)).1⟩

section
variable {fx : Fx} {X : XP} {σ : St}

theorem EvS.mono {st : Stmt} {Q Q' : Fl → St → Prop} (h : EvS fx X st σ Q) (hq : ∀ v σ', Q v σ' → Q' v σ') : EvS fx X st σ Q' :=
  fun W s R => wpAny_mono (h W s R) (fun _ _ x => x.mono (.refl _) hq) fun _ _ x => x
theorem EvSs.mono {ss : List Stmt} {Q Q' : Fl → St → Prop} (h : EvSs fx X ss σ Q) (hq : ∀ v σ', Q v σ' → Q' v σ') : EvSs fx X ss σ Q' :=
  fun W s R => wpAny_mono (h W s R) (fun _ _ x => x.mono (.refl _) hq) fun _ _ x => x

theorem evSs_nil {Q : Fl → St → Prop} (h : Q .next σ) : EvSs fx X [] σ Q := fun W _ R => wpAny_execs_nil ⟨W, σ, .next, .refl _, R, .next, h⟩
theorem evSs_cons {st : Stmt} {rest : List Stmt} {Q : Fl → St → Prop} (h : EvS fx X st σ (fun fl σ₁ => match fl with | .next => EvSs fx X rest σ₁ Q | f => Q f σ₁)) : EvSs fx X (st :: rest) σ Q := by
  intro W s R
  refine wpAny_execs_cons (wpAny_mono (h W s R) ?_ fun _ _ x => x)
  refine fun f s₁ zz => zz.elim fun W₁ σ₁ fl le₁ R₁ r₁ h₁ => ?_
  cases r₁ with
  | next => exact wpAny_mono (h₁ W₁ s₁ R₁) (fun _ _ x => x.mono le₁ fun _ _ y => y) fun _ _ x => x.mono le₁ fun _ _ y => y
  | brk => exact ⟨W₁, σ₁, .brk, le₁, R₁, .brk, h₁⟩
  | cont => exact ⟨W₁, σ₁, .cont, le₁, R₁, .cont, h₁⟩
  | ret r => exact ⟨W₁, σ₁, .ret _, le₁, R₁, .ret r, h₁⟩

theorem evReturn {e : Expr} {pos : Pos} {Q : Fl → St → Prop} (h : EvE fx X e σ (fun v σ₁ => Q (.ret v) σ₁)) : EvS fx X (.Return (some e) pos) σ Q := by
  intro W s R
  refine wpAny_Return_some (wpAny_mono (h W s R) ?_ fun _ _ x => x)
  refine fun u s₁ zz => zz.elim fun W₁ σ₁ v le₁ R₁ r₁ h₁ => ?_
  exact ⟨W₁, σ₁, .ret v, le₁, R₁, .ret r₁, h₁⟩
theorem evIf {t : Expr} {b o : List Stmt} {pos : Pos} {Q : Fl → St → Prop} (h : EvB fx X t σ (fun c σ₁ => if c then EvSs fx X b σ₁ Q else EvSs fx X o σ₁ Q)) : EvS fx X (.If t b o pos) σ Q := by
  intro W s R
  refine wpAny_If (wpAny_mono (h W s R) ?_ fun _ _ x => x)
  refine fun c s₁ zz => zz.elim fun W₁ σ₁ le₁ R₁ h₁ => ?_
  cases c with
  | true => exact wpAny_mono (h₁ W₁ s₁ R₁) (fun _ _ x => x.mono le₁ fun _ _ y => y) fun _ _ x => x.mono le₁ fun _ _ y => y
  | false => exact wpAny_mono (h₁ W₁ s₁ R₁) (fun _ _ x => x.mono le₁ fun _ _ y => y) fun _ _ x => x.mono le₁ fun _ _ y => y

def notComp : Expr → Bool
  | .ListComp .. | .SetComp .. | .DictComp .. => false
  | _ => true
theorem swaps_false {e : Expr} (h : notComp e = true) (t : Option Expr) (n : Nat) (env : Env) : swapsWith e t n env = pure false := by
  cases e <;> first | rfl | cases h

theorem evExpr (ok : FxOk fx) {e : Expr} {pos : Pos} {Q : Fl → St → Prop} (h : EvE fx X e σ (fun _ σ₁ => Q .next σ₁)) (hc : notComp e = true) : EvS fx X (.Expr e pos) σ Q := by
  intro W s R
  refine wpAny_Expr_any (wpAny_mono (h W s R) ?_ fun _ _ x => x) (by simp [interactive, ok.kind]) (swaps_false hc _ _ _)
  refine fun u s₁ zz => zz.elim fun W₁ σ₁ v le₁ R₁ r₁ h₁ => ?_
  exact ⟨W₁, σ₁, .next, le₁, R₁, .next, h₁⟩

def isVar (fx : Fx) (x : Str) : Prop := fx.env.locals = fx.L ∧ (fx.env.kindOf x = some .local ∨ fx.env.kindOf x = some .cell)

theorem storeVar (ok : FxAll fx) {x : Str} (hx : isVar fx x) {W : Wd} {s : Shared} {v : V} {u : Value} (R : Rep fx σ W s) (r : VR W v u) {Q : Unit → Shared → Prop} {E : Value → Shared → Prop}
    (k : ∀ h' tk, Rep fx (σ.set x v) W { s with heap := h', toks := tk } → Q () { s with heap := h', toks := tk }) : wpAny fx.M fx.A (storeName fx.env x u) Q E s := by
  obtain ⟨hL, hk | hk⟩ := hx
  · obtain ⟨_, g, m, news, G, F, N, C⟩ := id R
    refine wpAny_storeName_local hk (by rw [hL]; exact F.ns) (fun h' hn hs => k _ _ (R.setLoc r hk hL (ok.mfn hL) _ (by simp) ?_ (hL ▸ hn) (hL ▸ hs))) (by rw [ok.ok.kind]; rfl)
    intro y hy m' hm'
    simp only [hy, if_false]
    obtain ⟨o, es, ep, a1, a2, _, a4⟩ := F.ns
    obtain ⟨o', es', ep', b1, b2, _, b4⟩ := hm'
    rw [a1] at b1; cases b1
    rw [a2] at b2; cases b2
    rw [← a4, ← b4]
  · obtain ⟨e, g, m, news, G, F, N, C⟩ := id R
    cases hc : fx.env.cells.lookup x with
    | none => exact absurd hc (ok.cdef x hk)
    | some c =>
      obtain ⟨h1, o, v₀, h2, h3⟩ := C.cel x c hc
      refine wpAny_storeName_cell ok.ok.kind hk hc ⟨o, N.get h2, h3⟩ fun h' hv hs => ?_
      obtain ⟨o', ho', hd'⟩ := hv
      obtain ⟨F', N'⟩ := fr_upd F N h2 hs.extBut ho'
      refine k h' s.toks ⟨rest_with e _ _, g, m, setL c o' news, G, F', N', ?_⟩
      have other : ∀ p ∈ news, p.1 ≠ c → p ∈ setL c o' news := fun p hp q => setL_ne hp q
      refine ⟨by rw [setL_keys]; exact C.nd, fun p hp => other p (C.exs p hp) (ok.cex hL x c hc p hp), C.exd, C.aln, C.len, fun i o₁ h => ?_, fun t ht => other _ (C.tps t ht) fun q => ?_, fun y w h => ?_, fun y c' h => ?_, C.scc, C.mfx, C.ext⟩
      · obtain ⟨a, ob, k1, k2, k3⟩ := C.obs i o₁ h
        exact ⟨a, ob, k1, other _ k2 fun q => h1 (q ▸ List.mem_of_getElem? k1), k3⟩
      · dsimp only at q
        have := C.tps t ht
        rw [q] at this
        rw [← key_inj C.nd this h2] at h3
        cases h3
      · by_cases q : y = x
        · subst q
          simp [St.set, setN] at h
          subst h
          exact ⟨u, r, .cell (.inl hk) hc (setL_self h2) hd'⟩
        · simp [St.set, setN, q] at h
          obtain ⟨u', k1, k2⟩ := C.loc y w h
          refine ⟨u', k1, ?_⟩
          cases k2 with
          | loc a b d => exact .loc a b d
          | comp a b d => exact .comp a b d
          | cell a b d f => exact .cell a b (other _ d fun z => q (ok.cinj y x c (by rw [b]; exact congrArg some z) hc)) f
      · obtain ⟨k1, o₁, w, k2, k3⟩ := C.cel y c' h
        by_cases q : c' = c
        · subst q
          exact ⟨k1, o', _, setL_self h2, hd'⟩
        · exact ⟨k1, o₁, w, other _ k2 q, k3⟩

theorem evAssignName (ok : FxAll fx) {x : Str} {p pos : Pos} {e : Expr} {Q : Fl → St → Prop} (hx : isVar fx x) (h : EvE fx X e σ (fun v σ₁ => Q .next (σ₁.set x v))) (hc : notComp e = true) : EvS fx X (.Assign [.Name x p] e pos) σ Q := by
  intro W s R
  refine wpAny_Assign_Name (wpAny_mono (h W s R) ?_ fun _ _ x => x) (swaps_false hc _ _ _)
  refine fun u s₁ zz => zz.elim fun W₁ σ₁ v le₁ R₁ r₁ h₁ => ?_
  exact storeVar ok hx R₁ r₁ fun _ _ R₂ => ⟨W₁, _, .next, le₁, R₂, .next, h₁⟩

theorem evWhile (ok : FxAll fx) (hL : fx.env.locals = fx.L) {t : Expr} {b : List Stmt} {pos : Pos} {Q : Fl → St → Prop} (J : Nat → St → Prop) (m : Nat) (h0 : J m σ)
    (turn : ∀ m σ', J m σ' → EvB fx X t σ' (fun c σ₁ => if c then EvSs fx X b σ₁ (fun fl σ₂ => match fl with | .next | .cont => ∃ m', m' < m ∧ J m' σ₂ | .brk => Q .next σ₂ | .ret v => Q (.ret v) σ₂) else Q .next σ₁)) :
    EvS fx X (.While t b [] pos) σ Q := by
  intro W s R
  refine wpAny_While (codeAny_whileLoop (fun n s' => ∃ W' σ', W.le W' ∧ Rep fx σ' W' s' ∧ J n σ') ?_ m ⟨W, σ, .refl _, R, h0⟩)
  rintro n s' ⟨W', σ', le', R', hJ⟩
  refine wpAny_mono (turn n σ' hJ W' s' R') ?_ fun _ _ x => ((x.mono le' fun _ _ y => y).noted ok hL)
  refine fun c s₁ zz => zz.elim fun W₁ σ₁ le₁ R₁ h₁ => ?_
  cases c with
  | true =>
    refine wpAny_mono (h₁ W₁ s₁ R₁) ?_ fun _ _ x => (x.mono (le'.trans le₁) fun _ _ y => y).noted ok hL
    refine fun f s₂ zz => zz.elim fun W₂ σ₂ fl le₂ R₂ r₂ h₂ => ?_
    cases r₂ with
    | next => exact h₂.elim fun k hk => ⟨k, hk.1, W₂, σ₂, (le'.trans le₁).trans le₂, R₂, hk.2⟩
    | cont => exact h₂.elim fun k hk => ⟨k, hk.1, W₂, σ₂, (le'.trans le₁).trans le₂, R₂, hk.2⟩
    | brk => exact ⟨W₂, σ₂, .next, (le'.trans le₁).trans le₂, R₂, .next, h₂⟩
    | ret r => exact ⟨W₂, σ₂, .ret _, (le'.trans le₁).trans le₂, R₂, .ret r, h₂⟩
  | false => exact wpAny_execs_nil ⟨W₁, σ₁, .next, le'.trans le₁, R₁, .next, h₁⟩

/-- what an iterator yields -/
structure Src (fx : Fx) (W₀ : Wd) (its : List V) (need : St → Prop) (Io : Addr) (st : Nat → List (Addr × Obj) → Prop) : Prop where
  tup : ∀ k ps, st k ps → ∀ p ∈ ps, ∀ xs, p.2 ≠ tupObj xs
  own : ∀ qs (k : Nat) ps (σ : St) W s (t : Expr) (u : Value), st k ps → Rep ((fx.pushL qs).pushL ps) σ W s → ∀ (Q : Unit → Shared → Prop) (E : Value → Shared → Prop), Q () s → wpAny fx.M fx.A (letOwnedTupleGo t (.ref Io) u) Q E s
  self : ∀ qs (k : Nat) ps (σ : St) W s, st k ps → Rep ((fx.pushL qs).pushL ps) σ W s → ∀ (Q : Value → Shared → Prop) (E : Value → Shared → Prop), Q (.ref Io) s → wpAny fx.M fx.A (pyIter (.ref Io)) Q E s
  next : ∀ qs (k : Nat) ps (σ : St) W s (hk : k < its.length), W₀.le W → st k ps → ExOk (fx.pushL qs) ps → Rep ((fx.pushL qs).pushL ps) σ W s → need σ → ∀ (Q : Option Value → Shared → Prop) (E : Value → Shared → Prop),
    (∀ u ps' W' h' tk', st (k + 1) ps' → ps'.map (·.1) = ps.map (·.1) → W.le W' → VR W' its[k] u → Rep ((fx.pushL qs).pushL ps') σ W' { s with heap := h', toks := tk' } → Q (some u) { s with heap := h', toks := tk' }) →
    wpAny fx.M fx.A (pyNext (.ref Io)) Q E s
  done : ∀ qs ps (σ : St) W s, W₀.le W → st its.length ps → ExOk (fx.pushL qs) ps → Rep ((fx.pushL qs).pushL ps) σ W s → need σ → ∀ (Q : Option Value → Shared → Prop) (E : Value → Shared → Prop),
    (∀ h' tk', Rep (fx.pushL qs) σ W { s with heap := h', toks := tk' } → Q none { s with heap := h', toks := tk' }) → wpAny fx.M fx.A (pyNext (.ref Io)) Q E s

def IterT (fx : Fx) (X : XP) (iter : Expr) (σ : St) (P : List V → (St → Prop) → St → Prop) : Prop :=
  ∀ W s, Rep fx σ W s → wpAny fx.M fx.A (eval iter fx.env) (fun xv s₁ => wpAny fx.M fx.A (pyIter xv) (fun it s₂ => ∃ Io st ps W' σ' its need, it = .ref Io ∧ W.le W' ∧ Src fx W' its need Io st ∧ st 0 ps ∧ ExOk fx ps ∧
    Rep (fx.pushL ps) σ' W' s₂ ∧ P its need σ') (PX fx W X) s₁) (PX fx W X) s
theorem IterT.mono {iter : Expr} {P P' : List V → (St → Prop) → St → Prop} (h : IterT fx X iter σ P) (hp : ∀ its need σ', P its need σ' → P' its need σ') : IterT fx X iter σ P' := by
  refine fun W s R => wpAny_mono (h W s R) (fun _ _ x => wpAny_mono x ?_ fun _ _ e => e) fun _ _ e => e
  rintro _ _ ⟨Io, st, ps, W', σ', its, need, a, b, c, d, e, f, g⟩
  exact ⟨Io, st, ps, W', σ', its, need, a, b, c, d, e, f, hp _ _ _ g⟩

def AsgT (fx : Fx) (X : XP) (t : Expr) (v : V) (σ : St) (Q : St → Prop) : Prop :=
  ∀ W s u, Rep fx σ W s → VR W v u → wpAny fx.M fx.A (assign t fx.env u) (PU fx W Q) (PX fx W X) s
theorem asgName (ok : FxAll fx) {x : Str} {p : Pos} {v : V} {Q : St → Prop} (hx : isVar fx x) (h : Q (σ.set x v)) : AsgT fx X (.Name x p) v σ Q := fun W _ _ R r =>
  wpAny_bind (wpAny_standAt (wpAny_bindName (storeVar ok hx R r fun _ _ R₂ => ⟨W, _, .refl _, R₂, h⟩)))

theorem evFor (ok : FxAll fx) (hL : fx.env.locals = fx.L) {t iter : Expr} {b : List Stmt} {pos : Pos} {Q : Fl → St → Prop}
    (h : IterT fx X iter σ (fun its need σ₁ => ∃ J : Nat → St → Prop, J 0 σ₁ ∧ (∀ k σ', J k σ' → need σ') ∧
      (∀ (k : Nat) σ' (hk : k < its.length), J k σ' → ∀ ps, FxAll (fx.pushL ps) → AsgT (fx.pushL ps) X t its[k] σ' (fun σ₁ => EvSs (fx.pushL ps) X b σ₁ (fun fl σ₂ => match fl with | .next | .cont => J (k + 1) σ₂ | .brk => Q .next σ₂ | .ret v => Q (.ret v) σ₂))) ∧
      ∀ σ', J its.length σ' → Q .next σ'))
    (hs : ∀ x, foldedSetIterable iter fx.env x = pure x) : EvS fx X (.For t iter b [] pos) σ Q := by
  intro W s R
  refine wpAny_For (wpAny_mono (h W s R) (fun xv s₁ h₁ => wpAny_mono h₁ (fun it s₂ h₂ => ?_) fun _ _ e => e) fun _ _ e => e) hs
  obtain ⟨Io, st, ps, W₀, σ₀, its, need, rfl, le₀, S, hst, hex, R₀, J, h0, hn, turn, fin⟩ := h₂
  have drop : ∀ ps' (σ' : St) W' s', ExOk fx ps' → Rep (fx.pushL ps') σ' W' s' → Rep fx σ' W' s' := fun ps' σ' W' s' o r => r.unpush o.loc
  refine codeAny_forLoop_any (fun n s' => ∃ k ps' W' σ', n = its.length - k ∧ k ≤ its.length ∧ W₀.le W' ∧ st k ps' ∧ ExOk fx ps' ∧ Rep (fx.pushL ps') σ' W' s' ∧ J k σ') ?_ its.length ⟨0, ps, W₀, σ₀, rfl, Nat.zero_le _, .refl _, hst, hex, R₀, h0⟩
  rintro n s' ⟨k, ps', W', σ', rfl, hk, le₁', hst', hex', R', hJ⟩
  have le' := le₀.trans le₁'
  rcases Nat.lt_or_ge k its.length with hlt | hge
  · refine S.next [] k ps' σ' W' s' hlt le₁' hst' hex' R' (hn k σ' hJ) _ _ fun u ps'' W'' h'' tk'' hst'' hkey le'' r'' R'' => ?_
    have hex'' : ExOk fx ps'' := ⟨hkey ▸ hex'.nd, hkey ▸ hex'.dis, hkey ▸ hex'.cel, hkey ▸ hex'.loc⟩
    refine S.own [] (k + 1) ps'' σ' W'' _ t u hst'' R'' _ _ ?_
    refine wpAny_mono (turn k σ' hlt hJ ps'' (ok.pushL hex'') W'' _ u R'' r'') ?_ fun _ _ x => ((x.pushL hex''.loc).mono (le'.trans le'') fun _ _ y => y).noted ok hL
    refine fun _ s₃ zz => zz.elim fun W₃ σ₃ le₃ R₃ h₃ => ?_
    refine wpAny_mono (h₃ W₃ s₃ R₃) ?_ fun _ _ x => ((x.pushL hex''.loc).mono ((le'.trans le'').trans le₃) fun _ _ y => y).noted ok hL
    refine fun f s₄ zz => zz.elim fun W₄ σ₄ fl le₄ R₄ r₄ h₄ => ?_
    have LE := ((le'.trans le'').trans le₃).trans le₄
    have LE₁ := ((le₁'.trans le'').trans le₃).trans le₄
    cases r₄ with
    | next => exact ⟨its.length - (k + 1), by omega, k + 1, ps'', W₄, σ₄, rfl, hlt, LE₁, hst'', hex'', R₄, h₄⟩
    | cont => exact ⟨its.length - (k + 1), by omega, k + 1, ps'', W₄, σ₄, rfl, hlt, LE₁, hst'', hex'', R₄, h₄⟩
    | brk => exact ⟨W₄, σ₄, .next, LE, drop _ _ _ _ hex'' R₄, .next, h₄⟩
    | ret r => exact ⟨W₄, σ₄, .ret _, LE, drop _ _ _ _ hex'' R₄, .ret r, h₄⟩
  · obtain rfl : k = its.length := Nat.le_antisymm hk hge
    exact S.done [] ps' σ' W' s' le₁' hst' hex' R' (hn _ σ' hJ) _ _ fun h'' tk'' R'' => wpAny_execs_nil ⟨W', σ', .next, le', R'', .next, fin σ' hJ⟩
end
end Mine

set_option autoImplicit false
namespace Mine
open PySem PySem.W PySem.Calls PySem.Spec PyProof.Rows

section
variable {fx : Fx} {X : XP} {σ : St} {W : Wd} {s : Shared}

theorem Rep.list_at (R : Rep fx σ W s) {i : Nat} {vs : List V} {u : Value} (ho : σ.hp[i]? = some (.list vs)) (r : VR W (.ref i) u) : ∃ a xs n, u = .ref a ∧ W.al[i]? = some a ∧ s.heap.get? a = some (listObj xs n) ∧ VRs W vs xs := by
  refine R.elim fun _ g m news G F N C => ?_
  obtain ⟨a, ob, h1, h2, h3⟩ := C.obs i _ ho
  cases r with
  | ref e =>
    rw [h1] at e
    cases e
    cases h3 with
    | list n q => exact ⟨a, _, n, rfl, h1, (N _ h2).1, q⟩
theorem Rep.tup_at (R : Rep fx σ W s) {vs : List V} {u : Value} (r : VR W (.tup vs) u) : ∃ a xs, u = .ref a ∧ s.heap.get? a = some (tupObj xs) ∧ VRs W vs xs := by
  refine R.elim fun _ g m news G F N C => ?_
  cases r with
  | tup e q => exact ⟨_, _, rfl, (N _ (C.tps _ e)).1, q⟩
theorem listObj_isList {h : Heap} {a : Addr} {xs : List Value} {n : Nat} (e : h.get? a = some (listObj xs n)) : h.IsList a xs.toArray := ⟨_, e, rfl, n, rfl⟩
theorem tupObj_isTup {h : Heap} {a : Addr} {xs : List Value} (e : h.get? a = some (tupObj xs)) : IsTup h a xs.toArray := ⟨_, e, rfl, 0, rfl⟩

/-! data -/
mutual
inductive Dat (hp : List O) : V → PyData → Prop
  | none : Dat hp .none .none
  | bool (b : Bool) : Dat hp (.bool b) (.bool b)
  | int (n : Int) : Dat hp (.int n) (.int n)
  | str (x : Str) : Dat hp (.str x) (.str x)
  | tup {vs : List V} {ds : List PyData} : Dats hp vs ds → Dat hp (.tup vs) (.tuple ds)
  | list {i : Nat} {vs : List V} {ds : List PyData} : hp[i]? = some (.list vs) → Dats hp vs ds → Dat hp (.ref i) (.list ds)
inductive Dats (hp : List O) : List V → List PyData → Prop
  | nil : Dats hp [] []
  | cons {v : V} {vs : List V} {d : PyData} {ds : List PyData} : Dat hp v d → Dats hp vs ds → Dats hp (v :: vs) (d :: ds)
end
mutual
theorem Dat.reads (R : Rep fx σ W s) : ∀ {v : V} {d : PyData}, Dat σ.hp v d → ∀ {u : Value}, VR W v u → ∃ as, Reads s.heap u d as
  | _, _, .none => fun r => by cases r; exact ⟨_, .none⟩
  | _, _, .bool b => fun r => by cases r; exact ⟨_, .bool b⟩
  | _, _, .int n => fun r => by cases r; exact ⟨_, .int n _⟩
  | _, _, .str x => fun r => by cases r; exact ⟨_, .str x _⟩
  | _, _, .tup ds => fun r => by
    obtain ⟨a, xs, rfl, h1, h2⟩ := R.tup_at r
    obtain ⟨as, q⟩ := Dats.reads R ds h2
    exact ⟨_, .tuple h1 rfl rfl (by simpa using q)⟩
  | _, _, .list ho ds => fun r => by
    obtain ⟨a, xs, n, rfl, _, h1, h2⟩ := R.list_at ho r
    obtain ⟨as, q⟩ := Dats.reads R ds h2
    exact ⟨_, .list h1 rfl rfl (by simpa using q)⟩
theorem Dats.reads (R : Rep fx σ W s) : ∀ {vs : List V} {ds : List PyData}, Dats σ.hp vs ds → ∀ {us : List Value}, VRs W vs us → ∃ as, ReadsAll s.heap us ds as
  | _, _, .nil => fun r => by cases r; exact ⟨_, .nil⟩
  | _, _, .cons a b => fun r => by
    cases r with
    | cons c d =>
      obtain ⟨as, h1⟩ := Dat.reads R a c
      obtain ⟨bs, h2⟩ := Dats.reads R b d
      exact ⟨_, .cons h1 h2⟩
end

theorem dats_ints (hp : List O) : ∀ ns : List Int, Dats hp (ns.map .int) (ns.map .int)
  | [] => .nil
  | n :: r => .cons (.int n) (dats_ints hp r)

/-! binary operations -/
theorem bin_addT {x y : Int} {Q : V → St → Prop} (h : Q (.int (x + y)) σ) : BinT fx X .Add (.int x) (.int y) σ Q := by
  intro W s u₁ u₂ R r₁ r₂; cases r₁; cases r₂; exact add_int (.here (R.toks _) (.int _ _) h)
theorem bin_subT {x y : Int} {Q : V → St → Prop} (h : Q (.int (x - y)) σ) : BinT fx X .Sub (.int x) (.int y) σ Q := by
  intro W s u₁ u₂ R r₁ r₂; cases r₁; cases r₂; exact sub_int (.here (R.toks _) (.int _ _) h)
theorem bin_mulT {x y : Int} {Q : V → St → Prop} (q : x.natAbs < 2 ^ 64 ∨ y.natAbs < 2 ^ 64) (h : Q (.int (x * y)) σ) : BinT fx X .Mult (.int x) (.int y) σ Q := by
  intro W s u₁ u₂ R r₁ r₂; cases r₁; cases r₂
  refine PyProof.Rows.mul_int (.here (R.toks _) (.int _ _) h) ?_
  rcases q with q | q
  · exact .of_left (intBits_le q)
  · exact .of_right (intBits_le q)
theorem bin_modT {x y : Int} {Q : V → St → Prop} (q : 0 < y) (h : Q (.int (x % y)) σ) : BinT fx X .Mod (.int x) (.int y) σ Q := by
  intro W s u₁ u₂ R r₁ r₂; cases r₁; cases r₂
  exact mod_int' (Int.ne_of_gt q) (.here (R.toks _) (.int _ _) (by rw [Int.fmod_eq_emod_of_nonneg _ (Int.le_of_lt q)]; exact h))
theorem bin_divT {x y : Int} {Q : V → St → Prop} (q : 0 < y) (q' : y < 2 ^ 30) (h : Q (.int (x / y)) σ) : BinT fx X .FloorDiv (.int x) (.int y) σ Q := by
  intro W s u₁ u₂ R r₁ r₂; cases r₁; cases r₂
  exact floordiv_int (Int.ne_of_gt q) (.here (R.toks _) (.int _ _) (by rw [Int.fdiv_eq_ediv_of_nonneg _ (Int.le_of_lt q)]; exact h)) (.inl (PyProof.noPylong_small (by omega)))
theorem bin_powT {x y : Int} {Q : V → St → Prop} (q : 0 ≤ y ∧ y ≤ 1000000 ∧ x.natAbs < 2 ^ 64) (h : Q (.int (x ^ y.toNat)) σ) : BinT fx X .Pow (.int x) (.int y) σ Q := by
  intro W s u₁ u₂ R r₁ r₂; cases r₁; cases r₂; exact pow_int_small q.1 q.2.1 q.2.2 (.here (R.toks _) (.int _ _) h)
theorem bin_listsT {i j : Nat} {vs ws : List V} {Q : V → St → Prop} (h1 : σ.hp[i]? = some (.list vs)) (h2 : σ.hp[j]? = some (.list ws)) (h3 : vs.length + ws.length ≤ sizeLine) (h4 : Q (.ref σ.hp.length) ⟨σ.loc, σ.hp ++ [.list (vs ++ ws)]⟩) : BinT fx X .Add (.ref i) (.ref j) σ Q := by
  intro W s u₁ u₂ R r₁ r₂
  obtain ⟨a, xs, n, rfl, _, k1, k2⟩ := R.list_at h1 r₁
  obtain ⟨b, ys, n', rfl, _, k3, k4⟩ := R.list_at h2 r₂
  refine R.elim fun er g m news G F N C => ?_
  refine add_lists F N (listObj_isList k1) (listObj_isList k3) (fun h' F' N' => ?_) (by rw [← k2.length, ← k4.length]; exact h3)
  obtain ⟨W', le', hD, R'⟩ := Rep.addN er G C (o := .list (vs ++ ws)) F' N' (fun p hp => Nat.ne_of_lt (Heap.lt_size (N p hp).1)) fun W' le => .list 0 ((k2.mono le).append (k4.mono le))
  exact ⟨W', _, .ref σ.hp.length, le', R', .ref hD, h4⟩

/-! comparisons -/
theorem cmp_eqT (hu : fx.A.units + 64 < cLine) {a b : V} {da db : PyData} {Q : V → St → Prop} (h1 : Dat σ.hp a da) (h2 : Dat σ.hp b db) (h3 : PySem.SeqAt.shaped da = true) (h4 : PySem.SeqAt.shaped db = true) (h5 : Q (.bool (PyData.eqv da db)) σ) : CmpT fx X .Eq a b σ Q := by
  intro W s u₁ u₂ R r₁ r₂
  obtain ⟨as, ra⟩ := h1.reads R r₁
  obtain ⟨bs, rb⟩ := h2.reads R r₂
  exact eq_dataH ra rb h3 h4 hu (.here R (.bool _) h5)
theorem cmp_neT (hu : fx.A.units + 64 < cLine) {a b : V} {da db : PyData} {Q : V → St → Prop} (h1 : Dat σ.hp a da) (h2 : Dat σ.hp b db) (h3 : PySem.SeqAt.shaped da = true) (h4 : PySem.SeqAt.shaped db = true) (h5 : Q (.bool (!PyData.eqv da db)) σ) : CmpT fx X .NotEq a b σ Q := by
  intro W s u₁ u₂ R r₁ r₂
  obtain ⟨as, ra⟩ := h1.reads R r₁
  obtain ⟨bs, rb⟩ := h2.reads R r₂
  exact ne_dataH ra rb h3 h4 hu (.here R (.bool _) h5)
/-- a value that is not None, not a truth value -/
def someV : V → Bool
  | .int _ | .str _ | .tup _ | .ref _ => true
  | _ => false
theorem someV_ne {v : V} {u : Value} (h : someV v = true) (r : VR W v u) : plainIs u .none = true ∧ (u == .none) = false ∧ ∀ b, plainIs u (.bool b) = true ∧ (u == .bool b) = false := by
  cases r <;> first | exact ⟨rfl, rfl, fun b => ⟨rfl, rfl⟩⟩ | cases h
theorem is_plainT {a b : V} {c : Bool} {Q : V → St → Prop} (e : ∀ (W : Wd) u₁ u₂, VR W a u₁ → VR W b u₂ → plainIs u₁ u₂ = true ∧ (u₁ == u₂) = c) : (Q (.bool c) σ → CmpT fx X .Is a b σ Q) ∧ (Q (.bool (!c)) σ → CmpT fx X .IsNot a b σ Q) := by
  constructor
  · intro h W s u₁ u₂ R r₁ r₂
    obtain ⟨p, q⟩ := e W u₁ u₂ r₁ r₂
    exact wpAny_is_plain p (by rw [q]; exact .here R (.bool _) h)
  · intro h W s u₁ u₂ R r₁ r₂
    obtain ⟨p, q⟩ := e W u₁ u₂ r₁ r₂
    exact wpAny_isNot_plain p (by rw [q]; exact .here R (.bool _) h)
theorem is_nn : ∀ (W : Wd) u₁ u₂, VR W .none u₁ → VR W .none u₂ → plainIs u₁ u₂ = true ∧ (u₁ == u₂) = true := fun W u₁ u₂ r₁ r₂ => by cases r₁; cases r₂; exact ⟨rfl, rfl⟩
theorem is_vn {v : V} (h : someV v = true) : ∀ (W : Wd) u₁ u₂, VR W v u₁ → VR W .none u₂ → plainIs u₁ u₂ = true ∧ (u₁ == u₂) = false := fun W u₁ u₂ r₁ r₂ => by cases r₂; exact ⟨(someV_ne h r₁).1, (someV_ne h r₁).2.1⟩
theorem cmp_ltT {x y : Int} {Q : V → St → Prop} (h : Q (.bool (decide (x < y))) σ) : CmpT fx X .Lt (.int x) (.int y) σ Q := by
  intro W s u₁ u₂ R r₁ r₂; cases r₁; cases r₂; exact lt_int (.here R (.bool _) h)
theorem cmp_gtT {x y : Int} {Q : V → St → Prop} (h : Q (.bool (decide (y < x))) σ) : CmpT fx X .Gt (.int x) (.int y) σ Q := by
  intro W s u₁ u₂ R r₁ r₂; cases r₁; cases r₂; exact gt_int (.here R (.bool _) h)
theorem cmp_geT {x y : Int} {Q : V → St → Prop} (h : Q (.bool (decide (y ≤ x))) σ) : CmpT fx X .GtE (.int x) (.int y) σ Q := by
  intro W s u₁ u₂ R r₁ r₂; cases r₁; cases r₂; exact PyProof.Rows.ge_int (.here R (.bool _) h)

theorem tru_boolT {b : Bool} {Q : Bool → St → Prop} (h : Q b σ) : TruT fx X (.bool b) σ Q := by
  intro W s u R r; cases r; exact wpAny_truthy_bool (.here R h)
theorem un_notT {v : V} {Q : V → St → Prop} (h : TruT fx X v σ fun b σ' => Q (.bool (!b)) σ') : UnT fx X .Not v σ Q := by
  intro W s u R r
  refine not_of (wpAny_mono (h W s u R r) ?_ fun _ _ x => x)
  refine fun b s₁ zz => zz.elim fun W₁ σ₁ a b' c => ?_
  exact ⟨W₁, σ₁, _, a, b', .bool _, c⟩
theorem un_negT {n : Int} {Q : V → St → Prop} (h : Q (.int (-n)) σ) : UnT fx X .USub (.int n) σ Q := by
  intro W s u R r; cases r; exact PyProof.Rows.neg_int (.here (R.toks _) (.int _ _) h)
end
end Mine

set_option autoImplicit false
namespace Mine
open PySem PySem.W PySem.Calls PySem.Spec PyProof.Rows

/-! sources of loops -/
theorem own_go {M : Model} {A : Around} {E : Value → Shared → Prop} {s : Shared} {Io : Addr} {ob : Obj} {n : String} {vs : Array Value} (hg : s.heap.get? Io = some ob) (hc : ob.cls = .type n) (hd : ob.data = .fields vs)
    (hn : (["enumerate", "zip", "dict_itemiterator", "dict_reverseitemiterator", "odict_iterator", "itertools.zip_longest", "itertools.pairwise"] : List String).contains n = false) (t : Expr) (u : Value) {Q : Unit → Shared → Prop} (q : Q () s) :
    wpAny M A (letOwnedTupleGo t (.ref Io) u) Q E s := by
  unfold letOwnedTupleGo
  split
  · split
    · rename_i e
      cases e
      refine wpAny_bind (wpAny_load hg ?_)
      rw [hc, hd]
      dsimp only
      rw [hn]
      exact wpAny_pure q
    · exact wpAny_pure q
  · split
    · rename_i e
      cases e
      refine wpAny_bind (wpAny_load hg ?_)
      rw [hc, hd]
      dsimp only
      rw [hn]
      exact wpAny_pure q
    · exact wpAny_pure q
  · exact wpAny_pure q

section
variable {fx : Fx} {X : XP} {σ : St} {W : Wd} {s : Shared}

def listItSt (Io a : Addr) (k : Nat) (ps : List (Addr × Obj)) : Prop := ∃ ob : Obj, ps = [(Io, ob)] ∧ ob.cls = .type "list_iterator" ∧ ob.data = .fields #[.ref a, .int k 0]

theorem src_list (hh : fx.A.handled = none) {i : Nat} {its : List V} {a Io : Addr} (ha : W.al[i]? = some a) : Src fx W its (fun σ' => σ'.hp[i]? = some (.list its)) Io (listItSt Io a) where
  tup := by
    rintro k ps ⟨ob, rfl, hc, hd⟩ p hp xs e
    rw [List.mem_singleton.mp hp] at e
    rw [show ob = tupObj xs from e] at hc
    simp at hc
  own := by
    rintro qs k ps σ' W' s' t u ⟨ob, rfl, hc, hd⟩ R Q E q
    exact own_go (R.exPop (List.mem_singleton.mpr rfl)) hc hd (by decide) t u q
  self := by
    rintro qs k ps σ' W' s' ⟨ob, rfl, hc, hd⟩ R Q E q
    exact wpAny_pyIter_listiter ⟨ob, R.exPop (List.mem_singleton.mpr rfl), hc, hd⟩ q
  next := by
    rintro qs k ps σ' W' s' hk le ⟨ob, rfl, hc, hd⟩ ok R need Q E q
    have hg := R.exPop (List.mem_singleton.mpr rfl)
    obtain ⟨a', xs, n, ea, h1, h2, h3⟩ := R.list_at need (.ref (prefix_get le.1 ha))
    cases ea
    obtain ⟨x, hx, hv⟩ := h3.get (show its[k]? = some its[k] by simp [hk])
    refine wpAny_pyNext_list_item ⟨ob, hg, hc, hd⟩ (listObj_isList h2) (by simpa using hx) fun h' hit hs => ?_
    obtain ⟨ob', hg', hc', hd'⟩ := hit
    have R' := R.exSwap ok [(Io, ob')] rfl s'.toks
      (fun b o hb e => (hs.2 b (by simpa using hb)).trans e) (fun p hp => by rw [List.mem_singleton.mp hp]; exact hg')
    exact q x [(Io, ob')] W' h' s'.toks ⟨ob', rfl, hc', hd'⟩ rfl (.refl _) hv R'
  done := by
    rintro qs ps σ' W' s' le ⟨ob, rfl, hc, hd⟩ ok R need Q E q
    have hg := R.exPop (List.mem_singleton.mpr rfl)
    obtain ⟨a', xs, n, ea, h1, h2, h3⟩ := R.list_at need (.ref (prefix_get le.1 ha))
    cases ea
    refine wpAny_pyNext_list_end hh ⟨ob, hg, hc, hd⟩ (listObj_isList h2) (by simp [h3.length]) fun h' he => ?_
    exact q h' s'.toks (R.exDrop ok _ fun b o hb e => he b o (by simpa using hb) e)

def rngItems (a : Int) (n : Nat) : List V := (List.range n).map fun (j : Nat) => V.int (a + (j : Int))
theorem rngItems_length (a : Int) (n : Nat) : (rngItems a n).length = n := by simp [rngItems]
theorem rngItems_get (a : Int) (n k : Nat) (h : k < (rngItems a n).length) : (rngItems a n)[k] = .int (a + (k : Int)) := by simp [rngItems]

abbrev rngObj (x l : Int) : Obj := { cls := .type "range_iterator", dict := none, data := .fields #[rawInt x, rawInt l, rawInt 1], slots := #[] }
theorem rngObj_not (x l : Int) (xs : List Value) : rngObj x l ≠ tupObj xs := fun e => by
  have := congrArg Obj.cls e
  simp at this
def rngItSt (Io : Addr) (a : Int) (n : Nat) (k : Nat) (ps : List (Addr × Obj)) : Prop :=
  ps = [(Io, rngObj (a + (k : Int)) ((n : Int) - (k : Int)))]

theorem src_range (hh : fx.A.handled = none) {a : Int} {n : Nat} {Io : Addr} : Src fx W (rngItems a n) (fun _ => True) Io (rngItSt Io a n) where
  tup := by
    rintro k ps rfl p hp xs e
    rw [List.mem_singleton.mp hp] at e
    exact rngObj_not _ _ _ e
  own := by
    rintro qs k ps σ' W' s' t u rfl R Q E q
    exact own_go (R.exPop (List.mem_singleton.mpr rfl)) rfl rfl (by decide) t u q
  self := by
    rintro qs k ps σ' W' s' rfl R Q E q
    exact wpAny_pyIter_rangeiter (R.exPop (List.mem_singleton.mpr rfl)) q
  next := by
    rintro qs k ps σ' W' s' hk le rfl ok R need Q E q
    have hg := R.exPop (List.mem_singleton.mpr rfl)
    have hk' : k < n := by rwa [rngItems_length] at hk
    refine wpAny_pyNext_range_item (it := Io) (x := a + (k : Int)) (left := (n : Int) - (k : Int)) (step := 1) hg (by omega) fun h' hit hs => ?_
    have e1 : a + (k : Int) + 1 = a + ((k + 1 : Nat) : Int) := by push_cast; omega
    have e2 : (n : Int) - (k : Int) - 1 = (n : Int) - ((k + 1 : Nat) : Int) := by push_cast; omega
    rw [e1, e2] at hit
    have R' := R.exSwap ok [(Io, rngObj (a + ((k + 1 : Nat) : Int)) ((n : Int) - ((k + 1 : Nat) : Int)))] rfl (s'.toks + 1)
      (fun b o hb e => (hs.2 b (by simpa using hb)).trans e) (fun p hp => by rw [List.mem_singleton.mp hp]; exact hit)
    exact q _ _ W' h' (s'.toks + 1) rfl rfl (.refl _) (by rw [rngItems_get]; exact .int _ _) R'
  done := by
    rintro qs ps σ' W' s' le hst ok R need Q E q
    rw [rngItems_length] at hst
    cases hst
    have hg := R.exPop (List.mem_singleton.mpr rfl)
    refine wpAny_pyNext_range_end (it := Io) (x := a + (n : Int)) (left := (n : Int) - (n : Int)) (step := 1) hh hg (by omega) fun h' he => ?_
    exact q h' s'.toks (R.exDrop ok _ fun b o hb e => he b o (by simpa using hb) e)

/-- the iterator made -/
def PIt (fx : Fx) (W : Wd) (P : List V → (St → Prop) → St → Prop) : Value → Shared → Prop := fun it s₂ => ∃ Io st ps W' σ' its need, it = .ref Io ∧ W.le W' ∧ Src fx W' its need Io st ∧ st 0 ps ∧ ExOk fx ps ∧
    Rep (fx.pushL ps) σ' W' s₂ ∧ P its need σ'

def SrvT (fx : Fx) (v : V) (σ : St) (P : List V → (St → Prop) → St → Prop) : Prop := ∀ W s u (E : Value → Shared → Prop), Rep fx σ W s → VR W v u → wpAny fx.M fx.A (pyIter u) (PIt fx W P) E s
theorem srv_refT (ok : FxAll fx) (hq : fx.qt = true) {i : Nat} {its : List V} {P : List V → (St → Prop) → St → Prop} (e : σ.hp[i]? = some (.list its)) (h : P its (fun σ' => σ'.hp[i]? = some (.list its)) σ) : SrvT fx (.ref i) σ P := by
  intro W s u E R r
  obtain ⟨a, xs, n, rfl, ha, h2, h3⟩ := R.list_at e r
  refine wpAny_pyIter_list (listObj_isList h2) ?_
  obtain ⟨R', ok'⟩ := R.exPush [(s.heap.objs.size, ({ cls := .type "list_iterator", data := .fields #[.ref a, .int 0 0] } : Obj))] (by simp) s.toks
    (fun b o e => Heap.get?_push_of_some _ e) (fun p hp => by rw [List.mem_singleton.mp hp]; exact Nat.le_refl _) (fun p hp => by rw [List.mem_singleton.mp hp]; exact Heap.get?_push_size _ rfl) (R.locals_at ok)
  exact ⟨_, _, _, W, σ, its, _, rfl, .refl _, src_list (ok.ok.handled hq) ha, ⟨_, rfl, rfl, rfl⟩, ok', R', h⟩
/-! calls of the built-in functions -/
def CallT (fx : Fx) (X : XP) (f : Value) (vs : List V) (σ : St) (Q : V → St → Prop) : Prop :=
  ∀ W s us, Rep fx σ W s → VRs W vs us → wpAny fx.M fx.A (call f us) (PV fx W Q) (PX fx W X) s

theorem ScrAt (ok : FxAll fx) {σ : St} (R : Rep fx σ W s) : ∃ xs, s.heap.IsList W.sc (List.toArray xs) ∧ IntsAre xs fx.ns ∧ fx.ns.length < 2 ^ 62 := by
  have st := ok.stays R
  refine R.elim fun _ g m news G F N C => ?_
  obtain ⟨xs, n, o, h1, h2, h3, h4, h5⟩ := ok.scr
  exact ⟨xs, ⟨o, st _ _ (C.scc ▸ h1), h2, n, h3⟩, h4, h5⟩

theorem len_refT {i : Nat} {vs : List V} {Q : V → St → Prop} (ev : σ.hp[i]? = some (.list vs)) (hn : vs.length < 2 ^ 63) (h : Q (.int vs.length) σ) : CallT fx X (.builtin "len") [.ref i] σ Q := by
  intro W s us R r
  cases r with
  | cons r r' =>
    cases r'
    obtain ⟨a, xs, c, rfl, ha, h2, h3⟩ := R.list_at ev r
    refine call_len_list (listObj_isList h2) (by simp [← h3.length]; omega) ?_
    have e1 : (xs.toArray.size : Int) = (vs.length : Int) := by simp [h3.length]
    rw [e1]
    exact .here (R.toks _) (.int _ _) h
theorem len_scrT (ok : FxAll fx) {Q : V → St → Prop} (h : Q (.int fx.ns.length) σ) : CallT fx X (.builtin "len") [.scr] σ Q := by
  intro W s us R r
  cases r with
  | cons r r' =>
    cases r'
    cases r
    obtain ⟨xs, h1, h2, h3⟩ := ScrAt ok R
    refine call_len_list h1 (by simp [h2.length]; omega) ?_
    have e1 : (xs.toArray.size : Int) = (fx.ns.length : Int) := by simp [h2.length]
    rw [e1]
    exact .here (R.toks _) (.int _ _) h

theorem max_ok (ok : FxAll fx) (hq : fx.qt = true) {a b : Int} {Q : V → St → Prop} (h : Q (.int (if b > a then b else a)) σ) : CallT fx X (.builtin "max") [.int a, .int b] σ Q := by
  intro W s us R r
  cases r with
  | cons r₁ r =>
    cases r with
    | cons r₂ r =>
      cases r; cases r₁; cases r₂
      refine max_two_ints (ok.ok.handled hq) fun h' tk k => ?_
      split at h <;> rename_i q <;> simp only [q, if_true, if_false] <;> exact .here (R.keep _ k) (.int _ _) h
theorem min_ok (ok : FxAll fx) (hq : fx.qt = true) {a b : Int} {Q : V → St → Prop} (h : Q (.int (if b < a then b else a)) σ) : CallT fx X (.builtin "min") [.int a, .int b] σ Q := by
  intro W s us R r
  cases r with
  | cons r₁ r =>
    cases r with
    | cons r₂ r =>
      cases r; cases r₁; cases r₂
      refine min_two_ints (ok.ok.handled hq) fun h' tk k => ?_
      split at h <;> rename_i q <;> simp only [q, if_true, if_false] <;> exact .here (R.keep _ k) (.int _ _) h
theorem intBool_ok {b : Bool} {Q : V → St → Prop} (h : Q (.int (if b then 1 else 0)) σ) : CallT fx X (.type "int") [.bool b] σ Q := by
  intro W s us R r
  cases r with
  | cons r₁ r =>
    cases r; cases r₁
    exact call_int_bool (.here (R.toks _) (.int _ _) h)

theorem listOf_ok {v : V} {vs : List V} {Q : V → St → Prop} (e : (∃ i, v = .ref i ∧ σ.hp[i]? = some (.list vs)) ∨ v = .tup vs) (hl : vs.length ≤ sizeLine) (h : Q (.ref σ.hp.length) ⟨σ.loc, σ.hp ++ [.list vs]⟩) : CallT fx X (.type "list") [v] σ Q := by
  intro W s us R r
  cases r with
  | cons r₁ r =>
    cases r
    have fin : ∀ (xs : List Value) (c' : Nat) (h' : Heap), VRs W vs xs → (∀ b o', s.heap.get? b = some o' → h'.get? b = some o') → h'.get? s.heap.objs.size = some (listObj xs c') → PV fx W Q (.ref s.heap.objs.size) { s with heap := h' } := by
      intro xs c' h' hv hk hg
      refine R.elim fun er g m news G F N C => ?_
      have hle : W.le ⟨W.al ++ [s.heap.objs.size], W.tp, W.sc⟩ := ⟨List.prefix_append _ _, fun _ h => h, rfl⟩
      have fresh : ∀ p ∈ news, p.1 ≠ s.heap.objs.size := fun p hp => Nat.ne_of_lt (Heap.lt_size (N p hp).1)
      obtain ⟨oL, _, _, hL, _⟩ := F.ns
      refine ⟨⟨W.al ++ [s.heap.objs.size], W.tp, W.sc⟩, ⟨σ.loc, σ.hp ++ [.list vs]⟩, .ref σ.hp.length, hle, ⟨rest_with er _ _, g, m, (s.heap.objs.size, listObj xs c') :: news, G, frKeeps F hk, fun p hp => ?_, ?_⟩, .ref (by simp [← C.len]), h⟩
      · rcases List.mem_cons.mp hp with rfl | hp
        · refine ⟨hg, Nat.ne_of_gt (Heap.lt_size hL), ?_⟩
          cases hq : g.get? s.heap.objs.size with
          | none => rfl
          | some o' => exact absurd (Heap.lt_size (F.keep _ _ hq)) (Nat.lt_irrefl _)
        · exact ⟨hk _ _ (N p hp).1, (N p hp).2⟩
      · refine ⟨newsNodup N C.nd _, fun p hp => .tail _ (C.exs p hp), fun p hp hm => ?_, ?_, by simp [C.len], fun i o' h => ?_, fun t ht => .tail _ (C.tps t ht), fun x v h => ?_, fun x c h => ?_, C.scc, C.mfx, C.ext⟩
        · rcases List.mem_append.mp hm with hm | hm
          · exact C.exd p hp hm
          · exact fresh p (C.exs p hp) (List.mem_singleton.mp hm)
        · refine List.nodup_append.mpr ⟨C.aln, by simp, fun a ha b hb => ?_⟩
          rw [List.mem_singleton.mp hb]
          obtain ⟨o', ho'⟩ := C.al_lt ha
          exact fresh _ ho'
        · dsimp only at h
          rcases Nat.lt_trichotomy i σ.hp.length with q | q | q
          · rw [List.getElem?_append_left q] at h
            obtain ⟨a, ob', h1, h2, h3⟩ := C.obs i o' h
            exact ⟨a, ob', prefix_get hle.1 h1, .tail _ h2, h3.mono hle⟩
          · subst q
            simp at h
            subst h
            exact ⟨_, _, by simp [← C.len], .head _, .list c' (hv.mono hle)⟩
          · rw [List.getElem?_eq_none (by simp; omega)] at h
            cases h
        · obtain ⟨u, h1, h2⟩ := C.loc x v h
          exact ⟨u, h1.mono hle, h2.mono fun p hp => .tail _ hp⟩
        · obtain ⟨h1, o', v, h2, h3⟩ := C.cel x c h
          refine ⟨fun hm => ?_, o', v, .tail _ h2, h3⟩
          rcases List.mem_append.mp hm with hm | hm
          · exact h1 hm
          · exact fresh _ h2 (List.mem_singleton.mp hm)
    rcases e with ⟨i, rfl, hi⟩ | rfl
    · obtain ⟨a, xs, c, rfl, ha, h2, h3⟩ := R.list_at hi r₁
      exact call_list_seq (hsz := by simp [← h3.length]; exact hl) a (.inl rfl) h2 rfl rfl fun h' c' hk hD => fin xs c' h' h3 hk hD
    · obtain ⟨a, xs, rfl, h2, h3⟩ := R.tup_at r₁
      exact call_list_seq (hsz := by simp [← h3.length]; exact hl) a (.inr rfl) h2 rfl rfl fun h' c' hk hD => fin xs c' h' h3 hk hD

theorem isi_list {a : Addr} {o : Obj} {T : String} {A : Around} {E : Value → Shared → Prop} {prog : Program} {w : World} {Q : Value → Shared → Prop} (ho : s.heap.get? a = some o) (hc : o.cls = .type "list") (hT : T = "int" ∨ T = "bool" ∨ T = "list" ∨ T = "tuple" ∨ T = "str")
    (h : ∀ tk, Q (.bool (decide (T = "list"))) { s with toks := tk }) : wpAny (model prog w) A (call (.builtin "isinstance") [.ref a, .type T]) Q E s := by
  have no : ∀ T, (Value.type "list" == Value.type T) = false → typeOf (.type T) = pure (.type "type") → isSubtype (.type "list") (.type T) = pure false → (∀ tk, Q (.bool false) { s with toks := tk }) → wpAny (model prog w) A (call (.builtin "isinstance") [.ref a, .type T]) Q E s :=
    fun T h1 h2 h3 k => call_isinstance (isinstance_false_list h1 h2 h3) ⟨⟨o, ho, hc⟩, k _⟩
  rcases hT with rfl | rfl | rfl | rfl | rfl
  · exact no "int" (by decide) F.isi_meta_int (by rw [isSubtype_type]; kernel_rfl) h
  · exact no "bool" (by decide) F.isi_meta_bool (by rw [isSubtype_type]; kernel_rfl) h
  · exact call_isinstance (isinstance_true (Tx := "list") F.isi_meta_list (by rw [isSubtype_type]; kernel_rfl)) ⟨⟨o, ho, hc⟩, h s.toks⟩
  · exact no "tuple" (by decide) F.isi_meta_tuple (by rw [isSubtype_type]; kernel_rfl) h
  · exact no "str" (by decide) F.isi_meta_str (by rw [isSubtype_type]; kernel_rfl) h
theorem isi_tup {a : Addr} {o : Obj} {T : String} {A : Around} {E : Value → Shared → Prop} {prog : Program} {w : World} {Q : Value → Shared → Prop} (ho : s.heap.get? a = some o) (hc : o.cls = .type "tuple") (hT : T = "int" ∨ T = "bool" ∨ T = "list" ∨ T = "tuple" ∨ T = "str")
    (h : ∀ tk, Q (.bool (decide (T = "tuple"))) { s with toks := tk }) : wpAny (model prog w) A (call (.builtin "isinstance") [.ref a, .type T]) Q E s := by
  have no : ∀ T, (Value.type "tuple" == Value.type T) = false → typeOf (.type T) = pure (.type "type") → isSubtype (.type "tuple") (.type T) = pure false → (∀ tk, Q (.bool false) { s with toks := tk }) → wpAny (model prog w) A (call (.builtin "isinstance") [.ref a, .type T]) Q E s :=
    fun T h1 h2 h3 k => call_isinstance (isinstance_false_tuple h1 h2 h3) ⟨⟨o, ho, hc⟩, k _⟩
  rcases hT with rfl | rfl | rfl | rfl | rfl
  · exact no "int" (by decide) F.isi_meta_int (by rw [isSubtype_type]; kernel_rfl) h
  · exact no "bool" (by decide) F.isi_meta_bool (by rw [isSubtype_type]; kernel_rfl) h
  · exact no "list" (by decide) F.isi_meta_list (by rw [isSubtype_type]; kernel_rfl) h
  · exact call_isinstance (isinstance_true (Tx := "tuple") F.isi_meta_tuple (by rw [isSubtype_type]; kernel_rfl)) ⟨⟨o, ho, hc⟩, h s.toks⟩
  · exact no "str" (by decide) F.isi_meta_str (by rw [isSubtype_type]; kernel_rfl) h

/-- isinstance, by how the value lies -/
theorem isi_of {v : V} {T : String} {c : Bool} {Q : V → St → Prop} (e : ∀ W s u (Q : Value → Shared → Prop) (E : Value → Shared → Prop), Rep fx σ W s → VR W v u → (∀ tk, Q (.bool c) { s with toks := tk }) → wpAny fx.M fx.A (call (.builtin "isinstance") [u, .type T]) Q E s) (h : Q (.bool c) σ) : CallT fx X (.builtin "isinstance") [v, .glob (.type T)] σ Q := by
  intro W s us R r
  cases r with
  | cons r₁ r =>
    cases r with
    | cons r₂ r =>
      cases r; cases r₂
      exact e W s _ _ _ R r₁ fun tk => .here (R.toks tk) (.bool _) h

/-! places -/
def getI (xs : List V) (k : Int) : Option V := if 0 ≤ k then xs[k.toNat]? else if -(xs.length : Int) ≤ k then xs[(k + xs.length).toNat]? else none

def SubT (fx : Fx) (X : XP) (value slice : Expr) (o i : V) (σ : St) (Q : V → St → Prop) : Prop :=
  ∀ W s u₁ u₂, Rep fx σ W s → VR W o u₁ → VR W i u₂ → wpAny fx.M fx.A (subscriptTail value slice u₁ u₂) (PV fx W Q) (PX fx W X) s

def notSlice : Expr → Bool
  | .Slice .. => false
  | _ => true
theorem subscripted_plain {slice : Expr} (h : notSlice slice = true) (o i : Value) : subscripted slice false o i = operate [o, i] (getItem o i) := by
  cases slice <;> first | rfl | cases h

theorem sub_list {value slice : Expr} (hs : notSlice slice = true) {j : Nat} {xs : List V} {k : Int} {v : V} {Q : V → St → Prop} (ho : σ.hp[j]? = some (.list xs)) (hk : -(2 ^ 63) ≤ k ∧ k < 2 ^ 63) (e : getI xs k = some v) (h : Q v σ) :
    SubT fx X value slice (.ref j) (.int k) σ Q := by
  intro W s u₁ u₂ R r₁ r₂
  obtain ⟨a, ys, n, rfl, ha, h2, h3⟩ := R.list_at ho r₁
  cases r₂
  have hl := listObj_isList h2
  refine tail_any hl.typeIs slot_list_getitem.lookup ?_ (subscripted_plain hs _ _)
  unfold getI at e
  split at e
  · rename_i h0
    obtain ⟨x, hx, hv⟩ := h3.get e
    exact wpAny_getItem_list hl h0 hk.2 (by simpa using hx) (.here R hv h)
  · rename_i h0
    split at e
    · rename_i h1
      obtain ⟨x, hx, hv⟩ := h3.get e
      exact wpAny_getItem_list_neg hl (by omega) (by simpa [h3.length] using h1) hk.1 (by simpa [h3.length] using hx) (.here R hv h)
    · cases e
theorem sub_tup {value slice : Expr} (hs : notSlice slice = true) {xs : List V} {k : Int} {v : V} {Q : V → St → Prop} (hk : -(2 ^ 63) ≤ k ∧ k < 2 ^ 63) (e : getI xs k = some v) (h : Q v σ) :
    SubT fx X value slice (.tup xs) (.int k) σ Q := by
  intro W s u₁ u₂ R r₁ r₂
  obtain ⟨a, ys, rfl, h2, h3⟩ := R.tup_at r₁
  cases r₂
  rename_i tk
  have hl := tupObj_isTup h2
  refine tail_any hl.typeIs slot_tuple_getitem.lookup ?_ (subscripted_plain hs _ _)
  unfold getI at e
  have key : ∀ n, seqIndex? k ys.toArray.size = some n → xs[n]? = some v → wpAny fx.M fx.A (getItem (.ref a) (.int k tk)) (PV fx W Q) (PX fx W X) s := fun n h1 h2' => by
    obtain ⟨x, hx, hv⟩ := h3.get h2'
    exact PyProof.Rows.getItem_tuple hl hk.1 hk.2 h1 (by simpa using hx) (.here R hv h)
  split at e
  · rename_i h0
    refine key k.toNat ?_ e
    have hlt : k.toNat < xs.length := by
      rcases Nat.lt_or_ge k.toNat xs.length with z | z
      · exact z
      · rw [List.getElem?_eq_none z] at e; cases e
    have hlt' : k < ys.length := by rw [← h3.length]; omega
    unfold seqIndex?
    simp [Int.not_lt.mpr h0, h0, hlt']
  · rename_i h0
    split at e
    · rename_i h1
      refine key (k + xs.length).toNat ?_ e
      unfold seqIndex?
      rw [h3.length] at h1 ⊢
      have hneg : k < 0 := by omega
      simp only [List.size_toArray, hneg, if_true]
      rw [if_pos (by simp; omega)]
    · cases e
theorem sub_scr (ok : FxAll fx) {value slice : Expr} (hs : notSlice slice = true) {k : Int} {n : Int} {Q : V → St → Prop} (h0 : 0 ≤ k) (e : fx.ns[k.toNat]? = some n) (h : Q (.int n) σ) :
    SubT fx X value slice .scr (.int k) σ Q := by
  intro W s u₁ u₂ R r₁ r₂
  cases r₁; cases r₂
  obtain ⟨xs, h1, h2, h3⟩ := ScrAt ok R
  obtain ⟨t, hx⟩ := h2.get k.toNat n e
  have hlt : k.toNat < fx.ns.length := by
    rcases Nat.lt_or_ge k.toNat fx.ns.length with z | z
    · exact z
    · rw [List.getElem?_eq_none z] at e; cases e
  refine tail_any h1.typeIs slot_list_getitem.lookup ?_ (subscripted_plain hs _ _)
  exact wpAny_getItem_list h1 h0 (by omega) (by simpa using hx) (.here R (.int _ _) h)

theorem evSub {value slice : Expr} {pos : Pos} {Q : V → St → Prop} (h : EvE fx X value σ (fun o σ₁ => EvE fx X slice σ₁ (fun i σ₂ => SubT fx X value slice o i σ₂ Q))) : EvE fx X (.Subscript value slice pos) σ Q := by
  intro W s R
  refine Subscript_ (wpAny_mono (h W s R) ?_ fun _ _ x => x)
  refine fun u₁ s₁ zz => zz.elim fun W₁ σ₁ a le₁ R₁ r₁ h₁ => ?_
  refine wpAny_mono (h₁ W₁ s₁ R₁) ?_ fun _ _ x => x.mono le₁ fun _ _ y => y
  refine fun u₂ s₂ zz => zz.elim fun W₂ σ₂ b le₂ R₂ r₂ h₂ => ?_
  exact wpAny_mono (h₂ W₂ s₂ u₁ u₂ R₂ (r₁.mono le₂) r₂) (fun _ _ x => x.mono (le₁.trans le₂) fun _ _ y => y) fun _ _ x => x.mono (le₁.trans le₂) fun _ _ y => y

/-! a list grows -/
theorem append_ok {i : Nat} {vs : List V} {v : V} {Q : V → St → Prop} (ho : σ.hp[i]? = some (.list vs)) (hl : vs.length ≤ sizeLine) (h : Q .none ⟨σ.loc, σ.hp.set i (.list (vs ++ [v]))⟩) : CallT fx X (.builtin "list.append") [.ref i, v] σ Q := by
  intro W s us R r
  cases r with
  | cons r₁ r =>
    cases r with
    | cons r₂ r =>
      cases r
      obtain ⟨a, xs, n, rfl, ha, h2, h3⟩ := R.list_at ho r₁
      refine wpAny_list_append_plain (hsz := by simp [← h3.length]; exact hl) ⟨n, h2⟩ fun h' hp hs => ?_
      obtain ⟨n', hg⟩ := hp
      rename_i y
      refine ⟨W, _, .none, .refl _, R.upd ho ha (.list (xs := xs ++ [y]) n' (h3.append (.cons r₂ .nil))) s.toks hs.extBut (by simpa using hg), .none, h⟩

/-- a method of a built-in type is found -/
def GetM (fx : Fx) (v : V) (name : Str) (id : String) (σ : St) : Prop := ∀ W s u (pl : Sem Bool) (Q : Value × List Value → Shared → Prop) (E : Value → Shared → Prop), Rep fx σ W s → VR W v u → Q (.builtin id, [u]) s → wpAny fx.M fx.A (getMethod u name pl) Q E s

theorem getM_list {i : Nat} {vs : List V} {name : Str} {id : String} (ho : σ.hp[i]? = some (.list vs)) (slot : Slot "list" name id) (hty : typeOf (.builtin id) = pure (.type "method_descriptor")) : GetM fx (.ref i) name id σ := by
  intro W s u pl Q E R r q
  obtain ⟨a, xs, n, rfl, ha, h2, h3⟩ := R.list_at ho r
  exact getMethod_builtin ⟨_, h2, rfl⟩ PySem.F.plainAttrs_list slot hty (fun b e => by cases e; exact ⟨_, h2, rfl⟩) q

def noStar : Expr → Bool
  | .Starred .. => false
  | _ => true
theorem star_cons {e : Expr} (h : noStar e = true) (rest : List Expr) (env : Env) : starEach (e :: rest) env = (false, eval e env) :: starEach rest env := by
  cases e <;> first | rfl | cases h
theorem star_any : ∀ {es : List Expr}, es.all noStar = true → ∀ (pos : Pos) (env : Env), (backTo pos (starEach es env)).any (·.1) = false
  | [], _, _, _ => rfl
  | e :: r, h, pos, env => by
    rw [List.all_cons, Bool.and_eq_true] at h
    rw [star_cons h.1]
    have := star_any h.2 pos env
    simpa [backTo] using this

theorem evCallB (ok : FxAll fx) {f : Str} {p pos : Pos} {id : String} {e : Expr} {rest : List Expr} {Q : V → St → Prop} (hf : fx.pg.gl f = some (.builtin id)) (hk : fx.env.kindOf f = some .globalImplicit) (hd : (f == ("__debug__" : Str)) = false) (hs : (e :: rest).all noStar = true)
    (h : EvEs fx X (e :: rest) σ (fun vs σ₁ => CallT fx X (.builtin id) vs σ₁ Q)) : EvE fx X (.Call (.Name f p) (e :: rest) [] pos) σ Q := by
  intro W s R
  rw [List.all_cons, Bool.and_eq_true] at hs
  refine Call_Name rfl (ok.glb f _ p hf hk σ W s _ _ R ?_ hd)
  refine callWith_builtin1 (wpAny_mono (h W s pos R) ?_ fun _ _ x => x) (star_cons hs.1 _ _) (star_any hs.2 _ _)
  refine fun us s₁ zz => zz.elim fun W₁ σ₁ vs le₁ R₁ r₁ h₁ => ?_
  exact wpAny_mono (h₁ W₁ s₁ us R₁ r₁) (fun _ _ x => x.mono le₁ fun _ _ y => y) fun _ _ x => x.mono le₁ fun _ _ y => y
theorem evCallTy (ok : FxAll fx) {f : Str} {p pos : Pos} {T : String} {e : Expr} {rest : List Expr} {Q : V → St → Prop} (hf : fx.pg.gl f = some (.type T)) (hk : fx.env.kindOf f = some .globalImplicit) (hd : (f == ("__debug__" : Str)) = false) (hs : (e :: rest).all noStar = true)
    (h : EvEs fx X (e :: rest) σ (fun vs σ₁ => CallT fx X (.type T) vs σ₁ Q)) : EvE fx X (.Call (.Name f p) (e :: rest) [] pos) σ Q := by
  intro W s R
  rw [List.all_cons, Bool.and_eq_true] at hs
  refine Call_Name rfl (ok.glb f _ p hf hk σ W s _ _ R ?_ hd)
  refine PyProof.Rows.callWith_type1 (wpAny_mono (h W s pos R) ?_ fun _ _ x => x) (star_cons hs.1 _ _) (star_any hs.2 _ _)
  refine fun us s₁ zz => zz.elim fun W₁ σ₁ vs le₁ R₁ r₁ h₁ => ?_
  exact wpAny_mono (h₁ W₁ s₁ us R₁ r₁) (fun _ _ x => x.mono le₁ fun _ _ y => y) fun _ _ x => x.mono le₁ fun _ _ y => y

def gV : Value → V
  | .int n _ => .int n
  | .str x _ => .str x
  | .bool b => .bool b
  | .none => .none
  | v => .glob v
theorem gV_ok (W : Wd) (v : Value) : VR W (gV v) v := by
  cases v <;> simp only [gV] <;> first | exact .none | exact .bool _ | exact .int _ _ | exact .str _ _ | exact .glob _
theorem evGlob (ok : FxAll fx) {x : Str} {pos : Pos} {v : Value} {Q : V → St → Prop} (hx : fx.pg.gl x = some v) (hk : fx.env.kindOf x = some .globalImplicit) (hd : (x == ("__debug__" : Str)) = false) (h : Q (gV v) σ) : EvE fx X (.Name x pos) σ Q :=
  fun W s R => ok.glb x v pos hx hk σ W s _ _ R (.here R (gV_ok W v) h) hd

def RngP (vs : List V) (P : List V → Prop) : Prop :=
  (∃ n : Int, vs = [.int n] ∧ (-(2 ^ 62) ≤ n ∧ n < 2 ^ 62) ∧ P (rngItems 0 n.toNat)) ∨ ∃ a b : Int, vs = [.int a, .int b] ∧ ((-(2 ^ 62) ≤ a ∧ a < 2 ^ 62) ∧ (-(2 ^ 62) ≤ b ∧ b < 2 ^ 62)) ∧ P (rngItems a (b - a).toNat)
theorem iter_range (ok : FxAll fx) (hq : fx.qt = true) {f : Str} {p pos : Pos} {e : Expr} {rest : List Expr} {P : List V → (St → Prop) → St → Prop} (hf : fx.pg.gl f = some (.type "range")) (hk : fx.env.kindOf f = some .globalImplicit) (hd : (f == ("__debug__" : Str)) = false) (hs : (e :: rest).all noStar = true)
    (h : EvEs fx X (e :: rest) σ (fun vs σ₁ => RngP vs fun its => P its (fun _ => True) σ₁)) : IterT fx X (.Call (.Name f p) (e :: rest) [] pos) σ P := by
  intro W s R
  rw [List.all_cons, Bool.and_eq_true] at hs
  refine Call_Name rfl (ok.glb f _ p hf hk σ W s _ _ R ?_ hd)
  refine PyProof.Rows.callWith_type1 (wpAny_mono (h W s pos R) ?_ fun _ _ x => x) (star_cons hs.1 _ _) (star_any hs.2 _ _)
  refine fun us s₁ zz => zz.elim fun W₁ σ₁ vs le₁ R₁ r₁ hP => ?_
  have fin : ∀ (a b : Int) (t u v : Tok) (tk : Nat) (n : Nat), Builtin.Range.rangeSize a b 1 = (n : Int) → Builtin.Range.small a b 1 = true → P (rngItems a n) (fun _ => True) σ₁ →
      wpAny fx.M fx.A (pyIter (.ref s₁.heap.objs.size)) (fun it s₂ => ∃ Io st ps W' σ' its need, it = .ref Io ∧ W.le W' ∧ Src fx W' its need Io st ∧ st 0 ps ∧ ExOk fx ps ∧ Rep (fx.pushL ps) σ' W' s₂ ∧ P its need σ') (PX fx W X)
        { s₁ with heap := s₁.heap.push { cls := .type "range", data := .fields #[.int a t, .int b u, .int 1 v] }, toks := tk } := by
    intro a b t u v tk n hn hsm hP
    have R₂ := R₁.keep (h' := s₁.heap.push { cls := .type "range", data := .fields #[.int a t, .int b u, .int 1 v] }) tk fun b o e => Heap.get?_push_of_some _ e
    refine wpAny_pyIter_range (IsRange.new _ a b 1 t u v) hsm ?_
    obtain ⟨R', ok'⟩ := R₂.exPush [((s₁.heap.push { cls := .type "range", data := .fields #[.int a t, .int b u, .int 1 v] }).objs.size, ({ cls := .type "range_iterator", data := .fields #[rawInt a, rawInt (Builtin.Range.rangeSize a b 1), rawInt 1] } : Obj))] (by simp) tk
      (fun b o e => Heap.get?_push_of_some _ e) (fun p hp => by rw [List.mem_singleton.mp hp]; exact Nat.le_refl _) (fun p hp => by rw [List.mem_singleton.mp hp]; exact Heap.get?_push_size _ rfl) (R₂.locals_at ok)
    exact ⟨_, _, _, W₁, σ₁, _, _, rfl, le₁, src_range (ok.ok.handled hq), by simp only [rngItSt, hn]; simp, ok', R', hP⟩
  rcases hP with ⟨m, rfl, hok, hP⟩ | ⟨m, m', rfl, hok, hP⟩
  · cases r₁ with
    | cons r r' =>
      cases r'; cases r
      refine call_range_1 (fin 0 m _ _ _ _ _ ?_ (small_one (by decide) (by decide) hok.1 hok.2) hP)
      rw [rangeSize_one]; split <;> omega
  · cases r₁ with
    | cons r r' =>
      cases r' with
      | cons r₂ r' =>
        cases r'; cases r; cases r₂
        refine call_range_2 (fin m m' _ _ _ _ _ ?_ (small_one hok.1.1 hok.1.2 hok.2.1 hok.2.2) hP)
        rw [rangeSize_one]; split <;> omega

theorem iter_val {iter : Expr} {P : List V → (St → Prop) → St → Prop} (h : EvE fx X iter σ (fun v σ₁ => SrvT fx v σ₁ P)) : IterT fx X iter σ P := by
  intro W s R
  refine wpAny_mono (h W s R) ?_ fun _ _ x => x
  refine fun u s₁ zz => zz.elim fun W₁ σ₁ v le₁ R₁ r₁ h₁ => ?_
  refine wpAny_mono (h₁ W₁ s₁ u (PX fx W X) R₁ r₁) ?_ fun _ _ x => x
  rintro it s₂ ⟨Io, st, ps, W', σ', its, need, a, b, c⟩
  exact ⟨Io, st, ps, W', σ', its, need, a, le₁.trans b, c⟩
end
end Mine

set_option autoImplicit false
namespace Mine
open PySem PySem.W PySem.Calls PySem.Spec PyProof.Rows

def retV : Fl → V
  | .ret v => v
  | _ => .none
def flowV : Flow → Value
  | .ret v => v
  | _ => .none
theorem retV_ok {W : Wd} {fl : Fl} {f : Flow} (h : FlR W fl f) : VR W (retV fl) (flowV f) := by
  cases h <;> first | exact .none | assumption

def bindV : List Str → List V → (Str → Option V) → Str → Option V
  | x :: xs, v :: vs, l => bindV xs vs (setN l x v)
  | _, _, l => l

/-- a def of the text, called -/
def CallOK (pg : Pg) (lev : Nat) (qt : Bool) (ns : List Int) (f : Addr) (vs : List V) (hp : List O) (X : Value → List O → Prop) (Q : V → List O → Prop) : Prop :=
  ∀ fx : Fx, FxAll fx → fx.pg = pg → lev ≤ fx.lev → fx.ns = ns → (qt = true → fx.qt = true) → ∀ loc, CallT fx (fun cls σ' => σ'.loc = loc ∧ X cls σ'.hp) (.ref f) vs ⟨loc, hp⟩ (fun v σ' => σ'.loc = loc ∧ Q v σ'.hp)

/-- where a def lies, and what it is -/
structure FnAt (pg : Pg) (f : Addr) (xs : List Str) (body : List Stmt) (scope : Scope) : Prop where
  data : ∃ name qual params dV kV doc pm an cdv ct oc od osl, pg.K.lookup f = some ⟨oc, od, .func (fnOf name qual params body scope dV kV doc pm an cdv ct), osl⟩ ∧ codeIn pg.K cdv qual = true ∧
    (∀ us : List Value, us.length = xs.length → bindArgs (fnOf name qual params body scope dV kV doc pm an cdv ct) ⟨us, []⟩ = pure (xs.zip us))
  kinds : ∀ x ∈ xs, scope.names.lookup x = some .local ∨ scope.names.lookup x = some .cell
  cells : ((cellsFrom 0 scope.names []).map (·.1)).Nodup
  hco : scope.isCoroutine = false
  hgen : scope.isGenerator = false
  hk : scope.kind = .function

theorem cf_some {x : Str} : ∀ (names : List (Str × NameKind)) (n : Nat) (acc : List (Str × Addr)), names.lookup x = some .cell ∨ (acc.lookup x).isSome = true → ((cellsFrom n names acc).lookup x).isSome = true
  | [], _, _, h => h.elim (fun e => by cases e) id
  | (y, k) :: r, n, acc, h => by
    unfold cellsFrom
    by_cases hk : (k == .cell) = true
    · rw [if_pos hk]
      refine cf_some r (n + 1) ((y, n) :: acc) ?_
      by_cases hy : (x == y) = true
      · exact .inr (by rw [List.lookup_cons, hy]; rfl)
      · refine h.imp (fun e => ?_) fun e => ?_
        · rw [List.lookup_cons] at e; simpa only [hy] using e
        · rw [List.lookup_cons]; simpa only [hy] using e
    · rw [if_neg hk]
      refine cf_some r n acc ?_
      by_cases hy : (x == y) = true
      · refine .inr (h.elim (fun e => ?_) id)
        rw [List.lookup_cons, hy] at e
        exact absurd (by rw [Option.some.inj e]; rfl) hk
      · refine h.imp (fun e => ?_) id
        rw [List.lookup_cons] at e; simpa only [hy] using e

theorem cf_addr : ∀ (names : List (Str × NameKind)) (n lo : Nat) (acc : List (Str × Addr)), lo ≤ n → (acc.map (·.2)).Nodup → (∀ p ∈ acc, lo ≤ p.2 ∧ p.2 < n) →
    ((cellsFrom n names acc).map (·.2)).Nodup ∧ ∀ p ∈ cellsFrom n names acc, lo ≤ p.2
  | [], _, _, _, _, h, h' => ⟨h, fun p hp => (h' p hp).1⟩
  | (y, k) :: r, n, lo, acc, hl, h, h' => by
    unfold cellsFrom
    split
    · refine cf_addr r (n + 1) lo ((y, n) :: acc) (Nat.le_succ_of_le hl) ?_ fun p hp => ?_
      · rw [List.map_cons, List.nodup_cons]
        refine ⟨fun hm => ?_, h⟩
        obtain ⟨p, hp, e⟩ := List.mem_map.mp hm
        have := (h' p hp).2
        exact absurd this (by rw [show p.2 = n from e]; exact Nat.lt_irrefl _)
      · rcases List.mem_cons.mp hp with rfl | hp
        · exact ⟨hl, Nat.lt_succ_self _⟩
        · exact ⟨(h' p hp).1, Nat.lt_succ_of_lt (h' p hp).2⟩
    · exact cf_addr r n lo acc hl h h'

theorem lookup_mem {α β : Type} [BEq α] [LawfulBEq α] : ∀ {l : List (α × β)} {x : α} {y : β}, l.lookup x = some y → (x, y) ∈ l
  | (a, b) :: r, x, y, h => by
    rw [List.lookup_cons] at h
    split at h
    · rename_i e
      cases h
      rw [eq_of_beq e]
      exact .head _
    · exact .tail _ (lookup_mem h)

theorem snd_inj {α β : Type} : ∀ {l : List (α × β)}, (l.map (·.2)).Nodup → ∀ {x y : α} {c : β}, (x, c) ∈ l → (y, c) ∈ l → x = y
  | [], _, _, _, _, h, _ => by cases h
  | (a, b) :: r, nd, x, y, c, h, h' => by
    rw [List.map_cons, List.nodup_cons] at nd
    rcases List.mem_cons.mp h with e | h
    · rcases List.mem_cons.mp h' with e' | h'
      · rw [← e'] at e; cases e; rfl
      · cases e; exact absurd (List.mem_map.mpr ⟨_, h', rfl⟩) nd.1
    · rcases List.mem_cons.mp h' with e' | h'
      · cases e'; exact absurd (List.mem_map.mpr ⟨_, h, rfl⟩) nd.1
      · exact snd_inj nd.2 h h'

theorem cellsAre_keys {cm : Str → Option Value} : ∀ {cs : List (Str × Addr)} {cells : List (Addr × Obj)}, CellsAre cm cs cells → cells.map (·.1) = cs.map (·.2)
  | _, _, .nil => rfl
  | _, _, .cons _ r => by simp [cellsAre_keys r]
theorem cellsAre_at {cm : Str → Option Value} : ∀ {cs : List (Str × Addr)} {cells : List (Addr × Obj)}, CellsAre cm cs cells → ∀ {x : Str} {c : Addr}, (x, c) ∈ cs → ∃ o, (c, o) ∈ cells ∧ o.data = .cell (cm x)
  | _, _, .nil => fun h => by cases h
  | _, _, .cons hd r => fun h => by
    rcases List.mem_cons.mp h with e | h
    · cases e; exact ⟨_, .head _, hd⟩
    · obtain ⟨o, h1, h2⟩ := cellsAre_at r h
      exact ⟨o, .tail _ h1, h2⟩

theorem bind_rel {W : Wd} {kindOf : Str → Option NameKind} : ∀ {xs : List Str} {vs : List V} {us : List Value}, VRs W vs us → (∀ x ∈ xs, kindOf x = some .local ∨ kindOf x = some .cell) → ∀ (l : Str → Option V) (m cm : Str → Option Value),
    (∀ y v, l y = some v → ∃ u, VR W v u ∧ ((kindOf y = some .local ∧ m y = some u) ∨ (kindOf y = some .cell ∧ cm y = some u))) →
    ∀ y v, bindV xs vs l y = some v → ∃ u, VR W v u ∧ ((kindOf y = some .local ∧ bindL kindOf (xs.zip us) m y = some u) ∨ (kindOf y = some .cell ∧ bindC kindOf (xs.zip us) cm y = some u))
  | [], _, _, _, _, l, m, cm, h, y, v, e => by
    rw [show bindV [] _ l = l by unfold bindV; rfl] at e
    simpa [bindL, bindC] using h y v e
  | x :: xs, _, _, .nil, _, l, m, cm, h, y, v, e => by
    rw [show bindV (x :: xs) [] l = l by unfold bindV; rfl] at e
    simpa [bindL, bindC] using h y v e
  | x :: xs, _, _, .cons (v := v₀) (vs := vs) (x := u₀) (xs := us) r rs, hk, l, m, cm, h, y, v, e => by
    rw [show bindV (x :: xs) (v₀ :: vs) l = bindV xs vs (setN l x v₀) by rfl] at e
    rw [List.zip_cons_cons]
    simp only [bindL, bindC]
    refine bind_rel rs (fun z hz => hk z (.tail _ hz)) (setN l x v₀) _ _ (fun z w hw => ?_) y v e
    unfold setN at hw
    split at hw
    · rename_i q
      subst q
      cases hw
      refine ⟨u₀, r, ?_⟩
      rcases hk z (.head _) with q | q
      · exact .inl ⟨q, by simp [q]⟩
      · exact .inr ⟨q, by simp [q]⟩
    · rename_i q
      obtain ⟨u, h1, h2⟩ := h z w hw
      refine ⟨u, h1, ?_⟩
      rcases h2 with ⟨a, b⟩ | ⟨a, b⟩
      · refine .inl ⟨a, ?_⟩
        split
        · simp [q, b]
        · exact b
      · refine .inr ⟨a, ?_⟩
        split
        · exact b
        · simp [q, b]

/-- a def is entered -/
theorem enterX {prog : Program} {w : World} {A₀ A : Around} {s : Shared} {base h₀ : Heap} {outer : List Env} {L : Addr} {m : Str → Option Value} {env : Env} {news : List (Addr × Obj)}
    {R : Result → Shared → Prop} {name qual : Str} {params : Arguments} {body : List Stmt} {scope : Scope} {dV kV doc pm cdv ct : Value} {an : Option Addr} {fo : Obj} {f : Addr} {args : Args} {binds : List (Str × Value)}
    (B : Below A₀ base outer h₀) (F : Fr h₀ L s.heap m) (N : News h₀ L s.heap news) (hlim : s.heap.NoLimit) (hA : A.frames = some (env :: outer)) (hf : env.frame = some L) (hke : env.scope.kind = .function)
    (ho : s.heap.get? f = some fo) (hd : fo.data = .func (fnX name qual params body scope [] dV kV doc pm an cdv ct)) (hcd : s.heap.CodeRec cdv qual) (hroom : A.depth < recursionLimit)
    (hbind : BindsTo s (fnX name qual params body scope [] dV kV doc pm an cdv ct) args binds)
    (hkind : ∀ n, ∀ x ∈ binds, scope.names.lookup x.1 = some .local ∨ (scope.names.lookup x.1 = some .cell ∧ ((cellsFrom n scope.names []).lookup x.1).isSome = true))
    (hnd : ((cellsFrom 0 scope.names []).map (·.1)).Nodup)
    (h : ∀ g L' h₁ tk cells, Fr h₀ L g m → Fr g L' h₁ (bindL (envOfC qual scope L' f cdv).kindOf binds fun _ => none) → News g L' h₁ (cells ++ news) →
      CellsAre (bindC (envOfC qual scope L' f cdv).kindOf binds fun _ => none) (cellsFrom (L' + 1) scope.names []) cells → Below A base (env :: outer) g → h₀.StaysIn g → (∀ p ∈ news, p.1 < L') →
      wpAny (model prog w) (A.deeper (envOfC qual scope L' f cdv)) (execs body (envOfC qual scope L' f cdv))
        (fun fl s' => R (.ok (.ret (match fl with | .ret v => v | _ => .none))) s')
        (fun e s' => wpAny (model prog w) (A.deeper (envOfC qual scope L' f cdv)) (leaving (envOfC qual scope L' f cdv) e) (fun _ s'' => R (.error e) s'') (fun e' s'' => R (.error e') s'') s')
        { s with heap := h₁, toks := tk })
    (hco : scope.isCoroutine = false) (hgen : scope.isGenerator = false) (hk : scope.kind = .function) : codeAny (model prog w) A (.call (.ref f) args) R s := by
  obtain ⟨FG, BG, st, _⟩ := groundX (R := R) B F N hA hf hke
  refine codeAny_call_function hroom ho hd hco hgen rfl hcd (hbind _ _ _ _ ?_)
  refine wpAny_newFunctionEnv_cells hk (hkind _) fun env' he s' x => ?_
  subst he
  refine ⟨hlim.keeps x.toInCall.keep, codeAny_func ?_⟩
  obtain ⟨h₁, tk, rfl, _⟩ := x.done
  have hk₁ := x.toInCall.keep
  obtain ⟨cells, NC, Y⟩ := Cl.news (h₀ := s.heap) (Nat.le_refl _) fun n c hm => ⟨x.cell n c (lookup_of_mem_nodup (cellsFrom_names scope.names 0 (s.heap.objs.size + 1) [] [] rfl ▸ hnd) hm), x.above n c hm⟩
  refine wpAny_mono (h _ s.heap.objs.size h₁ tk cells FG ⟨x.toInCall.ns, fun b o e => hk₁ b o (of_hideAll _ e), Nat.le_of_eq (hideAll_size _ _)⟩ (fun p hp => ?_) Y BG st (fun p hp => Heap.lt_size (N p hp).1)) (fun fl s' hl => hl) fun _ _ y => y
  rcases List.mem_append.mp hp with hp | hp
  · refine ⟨(NC p hp).1, (NC p hp).2.1, ?_⟩
    cases q : (hideAll s.heap (news.map (·.1))).get? p.1 with
    | none => rfl
    | some o => have := of_hideAll _ q; rw [(NC p hp).2.2] at this; cases this
  · exact ⟨hk₁ _ _ (N p hp).1, Nat.ne_of_lt (Heap.lt_size (N p hp).1), hideAll_none _ (List.mem_map_of_mem hp)⟩

/-- the caller's ground, behind a call -/
theorem backG {outer : List Env} {env : Env} {L L' : Addr} {gc g g' h' h : Heap} {m m' : Str → Option Value} {news' : List (Addr × Obj)} (hf : env.frame = some L) (F : Fr gc L h m) (D : KtsDicts (outer.filterMap (·.frame)) gc) (FG : Fr gc L g m)
    (T : KtsTurn ((env :: outer).filterMap (·.frame)) g g') (F' : Fr g' L' h' m') (N' : News g' L' h' news') :
    ∃ g₁, KtsTurn (outer.filterMap (·.frame)) gc g₁ ∧ Fr g₁ L h' m ∧ News g₁ L h' news' := by
  have nL : gc.get? L = none := ground_self F.above
  obtain ⟨oL, es, ep, hLg, hLd, hLk, hLf⟩ := FG.ns
  obtain ⟨sl, hs⟩ := T.up hLg
  obtain ⟨T₁, S₁⟩ := kts_turn_at (h := h') (fs := outer.filterMap (·.frame)) (g := gc) (fun b hb => let ⟨o, _, _, h1, _⟩ := D b hb; ⟨o, h1⟩)
    (fun b o e nm => F'.keep b o (T.other b o (FG.keep b o e) (fun q => by
      rcases mem_frames hf q with z | z
      · rw [z, nL] at e; cases e
      · exact nm z)))
    (fun b o e _ => by
      obtain ⟨sl', hs'⟩ := T.up (FG.keep b o e)
      exact ⟨sl', F'.keep _ _ hs'⟩)
  refine ⟨_, T₁, ⟨⟨_, es, ep, F'.keep _ _ hs, hLd, hLk, hLf⟩, S₁, by rw [T₁.size]; exact F.above⟩, fun p hp => ⟨(N' p hp).1, fun q => ?_, T₁.none_ _ ?_⟩⟩
  · have := (N' p hp).2.2; rw [q, hs] at this; cases this
  · cases q : gc.get? p.1 with
    | none => rfl
    | some o =>
      obtain ⟨sl', hs'⟩ := T.up (FG.keep _ _ q)
      have := (N' p hp).2.2
      rw [hs'] at this
      cases this

theorem callOK_of {pg : Pg} {f : Addr} {xs : List Str} {body : List Stmt} {scope : Scope} (D : FnAt pg f xs body scope) {lev : Nat} {qt : Bool} {ns : List Int} {vs : List V} {hp : List O} {X : Value → List O → Prop} {Q : V → List O → Prop} (hl : vs.length = xs.length)
    (h : ∀ fx' : Fx, FxAll fx' → fx'.pg = pg → fx'.ns = ns → fx'.lev = lev → (qt = true → fx'.qt = true) → fx'.env.scope = scope → fx'.env.locals = fx'.L → EvSs fx' (fun cls σ' => X cls σ'.hp) body ⟨bindV xs vs (fun _ => none), hp⟩ (fun fl σ' => Q (retV fl) σ'.hp)) :
    CallOK pg (lev + 1) qt ns f vs hp X Q := by
  rintro fx all rfl hlev hns hqt loc W s us R r
  have stB := all.stays R
  refine R.elim fun er gc m news G F N C => ?_
  obtain ⟨BL, DC⟩ := all.ground G
  obtain ⟨name, qual, params, dV, kV, doc, pm, an, cdv, ct, oc, od, osl, ho, hcd, hbind⟩ := D.data
  have X' := all.part.keeps stB
  have hlen : us.length = xs.length := r.length ▸ hl
  refine wpAny_call (enterX (news := news) (name := name) (qual := qual) (params := params) (body := body) (scope := scope) BL F N (all.top.nolimit.keeps stB) all.frs all.ffr all.fkd (X' _ _ ho) rfl (codeRec_of X' hcd) (by have := all.depth; omega)
    (BindsTo.of_eq (hbind us hlen)) ?_ D.cells ?_ D.hco D.hgen D.hk)
  · intro n x hx
    have hx' : x.1 ∈ xs := (List.of_mem_zip (a := x.1) (b := x.2) hx).1
    rcases D.kinds x.1 hx' with q | q
    · exact .inl q
    · exact .inr ⟨q, cf_some _ _ _ (.inl q)⟩
  intro g L' h₁ tk cells FG F' N' Y B' st lt
  have keysC := cellsAre_keys Y
  have cfa := cf_addr scope.names (L' + 1) (L' + 1) [] (Nat.le_refl _) (by simp) (fun p hp => by cases hp)
  let cf : Addr × Obj → Bool := fun p => fx.env.cells.any fun q => decide (fx.env.cells.lookup q.1 = some p.1)
  let fx' : Fx := { pg := fx.pg, A := fx.A.deeper (envOfC qual scope L' f cdv), env := envOfC qual scope L' f cdv, fenv := envOfC qual scope L' f cdv, outer := fx.fenv :: fx.outer, A₀ := fx.A, base := fx.base, h₀ := g, L := L',
                    ex := fx.ex ++ news.filter cf, s₀ := fx.s₀, sc := fx.sc, ns := fx.ns, lev := lev, mfix := none, qt := fx.qt }
  have exN : ∀ p ∈ fx'.ex, p ∈ news := fun p hp => (List.mem_append.mp hp).elim (C.exs p) fun q => (List.mem_filter.mp q).1
  have cellIn : ∀ x c o, fx.env.cells.lookup x = some c → (c, o) ∈ news → (c, o) ∈ fx'.ex := fun x c o h1 h2 =>
    List.mem_append_right _ (List.mem_filter.mpr ⟨h2, List.any_eq_true.mpr ⟨_, lookup_mem h1, decide_eq_true h1⟩⟩)
  have exAl : ∀ p ∈ fx'.ex, p.1 ∉ W.al := fun p hp => (List.mem_append.mp hp).elim (C.exd p) fun q => by
    obtain ⟨e, _, e1⟩ := List.any_eq_true.mp (List.mem_filter.mp q).2
    exact (C.cel _ _ (of_decide_eq_true e1)).1
  have exTp : ∀ p ∈ fx'.ex, ∀ t ∈ W.tp, p.1 ≠ t.1 := fun p hp t ht => (List.mem_append.mp hp).elim (fun q => C.ext p q t ht) fun q z => by
    obtain ⟨e, _, e1⟩ := List.any_eq_true.mp (List.mem_filter.mp q).2
    obtain ⟨_, o, v, h2, h3⟩ := C.cel _ _ (of_decide_eq_true e1)
    have h4 := C.tps t ht
    rw [← z] at h4
    rw [key_inj C.nd h2 h4] at h3
    cases h3
  have cellAt : ∀ x c, (cellsFrom (L' + 1) scope.names []).lookup x = some c → ∃ o, (c, o) ∈ cells ∧ o.data = .cell (bindC (envOfC qual scope L' f cdv).kindOf (xs.zip us) (fun _ => none) x) := fun x c h => cellsAre_at Y (lookup_mem h)
  have newC : ∀ p ∈ cells, ∀ q ∈ news, q.1 < p.1 := fun p hp q hq => by
    have h1 : p.1 ∈ (cellsFrom (L' + 1) scope.names []).map (·.2) := keysC ▸ List.mem_map_of_mem (f := (·.1)) hp
    obtain ⟨e, he, e1⟩ := List.mem_map.mp h1
    have h2 := cfa.2 e he
    have h3 := lt q hq
    rw [← e1]
    exact Nat.lt_of_lt_of_le h3 (Nat.le_of_succ_le h2)
  have all' : FxAll fx' := {
    ok := ⟨D.hk, all.ok.handled⟩
    locs := .inl rfl
    cex := fun _ x c h p hp q => by
      obtain ⟨o, ho, _⟩ := cellAt x c h
      exact absurd (newC _ ho p (exN p hp)) (by rw [q]; exact Nat.lt_irrefl _)
    cinj := fun x y c h h' => snd_inj cfa.1 (lookup_mem h) (lookup_mem h')
    cdef := fun x h q => by
      have := cf_some (x := x) scope.names (L' + 1) [] (.inl h)
      rw [show (cellsFrom (L' + 1) scope.names []).lookup x = none from q] at this
      cases this
    scr := all.scr
    egl := rfl
    ebu := rfl
    top := all.top
    part := all.part
    below := B'
    dicts := fun b hb => by
      rcases mem_frames all.ffr hb with rfl | z
      · obtain ⟨oL, es, ep, hL, hd, _⟩ := FG.ns
        exact ⟨oL, es, ep, hL, hd⟩
      · obtain ⟨o, es, n, h1, h2⟩ := DC b z
        exact ⟨o, es, n, FG.keep _ _ h1, h2⟩
    frs := by show (fx.A.frames.map _) = _; rw [all.frs]; rfl
    ffr := rfl
    fkd := D.hk
    depth := by show fx.A.depth + 1 + lev < recursionLimit; have := all.depth; omega
    room := by show fx.A.units + 3 + 8 * lev + 100 < cLine; have := all.room; omega
    mfn := fun _ => rfl
    envf := fun _ => rfl }
  have R' : Rep fx' ⟨bindV xs vs (fun _ => none), hp⟩ W { s with heap := h₁, toks := tk } := by
    refine ⟨rest_with er _ _, _, _, cells ++ news, .refl, F', N', ?_, fun p hp => List.mem_append_right _ (exN p hp), exAl, C.aln, C.len, fun i o h => ?_, fun t ht => List.mem_append_right _ (C.tps t ht), fun x v h => ?_, fun x c h => ?_, C.scc, fun _ q => (by cases q), fun p hp t ht => ?_⟩
    · rw [List.map_append, keysC]
      refine List.nodup_append.mpr ⟨cfa.1, C.nd, fun a ha b hb q => ?_⟩
      rw [← keysC] at ha
      obtain ⟨p, hp, rfl⟩ := List.mem_map.mp ha
      obtain ⟨p', hp', rfl⟩ := List.mem_map.mp hb
      exact absurd (newC p hp p' hp') (by rw [q]; exact Nat.lt_irrefl _)
    · obtain ⟨a, ob, h1, h2, h3⟩ := C.obs i o h
      exact ⟨a, ob, h1, List.mem_append_right _ h2, h3⟩
    · obtain ⟨u, h1, h2⟩ := bind_rel (kindOf := (envOfC qual scope L' f cdv).kindOf) r D.kinds (fun _ => none) (fun _ => none) (fun _ => none) (fun y v h => by cases h) x v h
      refine ⟨u, h1, ?_⟩
      rcases h2 with ⟨k1, k2⟩ | ⟨k1, k2⟩
      · exact .loc k1 rfl k2
      · have hs := cf_some (x := x) scope.names (L' + 1) [] (.inl k1)
        obtain ⟨c, hc⟩ := Option.isSome_iff_exists.mp hs
        obtain ⟨o, ho, hd⟩ := cellAt x c hc
        exact .cell (.inl k1) hc (List.mem_append_left _ ho) (by rw [hd, k2])
    · obtain ⟨o, ho, hd⟩ := cellAt x c h
      refine ⟨fun hm => ?_, o, _, List.mem_append_left _ ho, hd⟩
      obtain ⟨o', ho'⟩ := C.al_lt hm
      exact absurd (newC _ ho _ ho') (Nat.lt_irrefl _)
    · exact exTp p hp t ht
  have coreBack : ∀ {σ' : St} {W' : Wd} {m' : Str → Option Value} {news' : List (Addr × Obj)}, W.le W' → Core fx' σ' W' m' news' → Core fx ⟨loc, σ'.hp⟩ W' m news' := by
    intro σ' W' m' news' le' C''
    refine ⟨C''.nd, fun p hp => C''.exs p (List.mem_append_left _ hp), fun p hp => C''.exd p (List.mem_append_left _ hp), C''.aln, C''.len, C''.obs, C''.tps, fun x v h => ?_, fun x c h => ?_, C''.scc, fun m₀ q => C.mfx m₀ q, fun p hp t ht => C''.ext p (List.mem_append_left _ hp) t ht⟩
    · obtain ⟨u, h1, h2⟩ := C.loc x v h
      refine ⟨u, h1.mono le', ?_⟩
      cases h2 with
      | loc a b c => exact .loc a b c
      | comp a b c => exact .comp a b c
      | cell a b c d => exact .cell a b (C''.exs _ (cellIn _ _ _ b c)) d
    · obtain ⟨_, o, v, h2, h3⟩ := C.cel x c h
      have hin := cellIn x c o h h2
      exact ⟨C''.exd _ hin, o, v, C''.exs _ hin, h3⟩
  refine wpAny_mono (h fx' all' rfl hns rfl hqt rfl rfl W _ R') ?_ ?_
  · refine fun fl s' zz => zz.elim fun W' σ' fl' le' R'' r'' q'' => ?_
    refine R''.elim fun er' g' m' news' G' F'' N'' C'' => ?_
    obtain ⟨g₁, T₁, F₁, N₁⟩ := backG all.ffr F DC FG G' F'' N''
    have hv := retV_ok r''
    exact ⟨W', ⟨loc, σ'.hp⟩, retV fl', le', ⟨er', g₁, m, news', G.trans T₁, F₁, N₁, coreBack le' C''⟩, (by cases fl <;> exact hv), rfl, q''⟩
  · rintro u s' ⟨e, cls, k, W', σ', rfl, le', ⟨er', g', m', news', B, c, f⟩, hX⟩
    refine leaveFly (L₁ := fx.L) all'.frs rfl f fun h'' f'' u'' => ?_
    have c' := c.up rfl f''.stays.1 u''
    obtain ⟨oL, es, ep, hLg, hLd, hLk, hLf⟩ := FG.ns
    obtain ⟨sl, hs⟩ := c.turn.up hLg
    obtain ⟨sl', hs'⟩ := c'.fr _ _ hs
    refine ⟨e, cls, .fly, W', ⟨loc, σ'.hp⟩, rfl, le', ⟨rest_heap er' _, gc, m, news', B, ⟨G, DC, F.above, ⟨_, es, ep, hs', hLd, hLk, hLf⟩, fun b o q nm => ?_, fun b o q => ?_, fun p hp => ⟨(c.nw p hp).1, fun q => ?_, ?_⟩, coreBack le' c.core, c.base⟩, f''⟩, rfl, hX⟩
    · have q' := c.turn.other b o (FG.keep b o q) nm
      refine c.gB b o q' fun hm => ?_
      rcases mem_frames (show fx'.fenv.frame = some L' from rfl) hm with z | z
      · rw [z, ground_self c.size] at q'
        cases q'
      · exact nm z
    · obtain ⟨s1, q1⟩ := c.turn.up (FG.keep b o q)
      obtain ⟨s2, q2⟩ := c'.fr _ _ q1
      exact ⟨s2, q2⟩
    · have := (c.nw p hp).2.2
      rw [q, hs] at this
      cases this
    · cases q : gc.get? p.1 with
      | none => rfl
      | some o =>
        obtain ⟨s1, q1⟩ := c.turn.up (FG.keep _ _ q)
        have := (c.nw p hp).2.2
        rw [q1] at this
        cases this

end Mine

set_option autoImplicit false
namespace Mine
open PySem PySem.W PySem.Calls PySem.Spec PyProof.Rows

theorem pushL_pushL (fx : Fx) (qs ps : List (Addr × Obj)) : (fx.pushL qs).pushL ps = fx.pushL (ps ++ qs) := by
  simp only [Fx.pushL, List.append_assoc]
theorem ExOk.join {fx : Fx} {qs ps : List (Addr × Obj)} (a : ExOk fx qs) (b : ExOk (fx.pushL qs) ps) : ExOk fx (ps ++ qs) where
  nd := by
    rw [List.map_append]
    refine List.nodup_append.mpr ⟨b.nd, a.nd, fun x hx y hy e => ?_⟩
    obtain ⟨p, hp, rfl⟩ := List.mem_map.mp hy
    exact b.dis p (List.mem_append_left _ hp) (e ▸ hx)
  dis := fun p hp q => by
    rw [List.map_append] at q
    exact (List.mem_append.mp q).elim (b.dis p (List.mem_append_right _ hp)) (a.dis p hp)
  cel := fun x c h q => by
    rw [List.map_append] at q
    exact (List.mem_append.mp q).elim (b.cel x c h) (a.cel x c h)
  loc := fun q => by
    rw [List.map_append] at q
    exact (List.mem_append.mp q).elim b.loc a.loc
theorem ExOk.keys {fx : Fx} {ps ps' : List (Addr × Obj)} (a : ExOk fx ps) (h : ps'.map (·.1) = ps.map (·.1)) : ExOk fx ps' := ⟨h ▸ a.nd, h ▸ a.dis, h ▸ a.cel, h ▸ a.loc⟩
theorem ExOk.left {fx : Fx} {qs qs' ps : List (Addr × Obj)} (h : qs'.map (·.1) = qs.map (·.1)) (b : ExOk (fx.pushL qs) ps) : ExOk (fx.pushL qs') ps where
  nd := b.nd
  dis := fun p hp q => by
    rcases List.mem_append.mp hp with hp | hp
    · have : p.1 ∈ qs.map (·.1) := h ▸ List.mem_map_of_mem (f := (·.1)) hp
      obtain ⟨o, ho⟩ := mem_keys this
      exact b.dis _ (List.mem_append_left _ ho) q
    · exact b.dis p (List.mem_append_right _ hp) q
  cel := b.cel
  loc := b.loc

def NsObj (o : Obj) : Prop := ∃ es ep, o.data = .dict es ep ∧ StrKeys es
/-- the names that a comprehension has bound -/
def CLR (W : Wd) (l : Str → Option V) (o : Obj) : Prop := ∀ y v, l y = some v → ∃ u, VR W v u ∧ NsSays o y u
/-- a comprehension's scope within its frame -/
structure CompOk (env : Env) (scope : Scope) : Prop where
  kind : scope.kind = .function
  nocell : ∀ y ∈ scope.names, y.2 ≠ .cell
  names : ∀ y ∈ scope.names, y.2 = .local → scope.names.lookup y.1 = some .local
  frees : ∀ y ∈ scope.names, y.2 = .free → scope.names.lookup y.1 = some .free
  free : ∀ n, scope.names.lookup n = some .free → env.kindOf n = some .cell

def clOf (env : Env) : List (Str × NameKind) → List (Str × Addr) → List (Str × Addr)
  | [], acc => acc
  | (n, k) :: r, acc => if k == .free then clOf env r ((n, (env.cells.lookup n).getD 0) :: acc) else clOf env r acc

theorem clOf_prop {env : Env} : ∀ (names : List (Str × NameKind)) (acc : List (Str × Addr)), (∀ n, (n, NameKind.free) ∈ names → env.cells.lookup n ≠ none) → (∀ p ∈ acc, env.cells.lookup p.1 = some p.2) →
    ∀ p ∈ clOf env names acc, env.cells.lookup p.1 = some p.2
  | [], _, _, h => h
  | (n, k) :: r, acc, hn, h => by
    unfold clOf
    split
    · rename_i hk
      have hk' : k = .free := by simpa using hk
      subst hk'
      refine clOf_prop r _ (fun m hm => hn m (.tail _ hm)) fun p hp => ?_
      rcases List.mem_cons.mp hp with rfl | hp
      · have := hn n (.head _)
        cases q : env.cells.lookup n with
        | none => exact absurd q this
        | some c => simp
      · exact h p hp
    · exact clOf_prop r acc (fun m hm => hn m (.tail _ hm)) h

theorem clOf_some {env : Env} {x : Str} : ∀ (names : List (Str × NameKind)) (acc : List (Str × Addr)), (x, NameKind.free) ∈ names ∨ (acc.lookup x).isSome = true → ((clOf env names acc).lookup x).isSome = true
  | [], _, h => h.elim (fun e => by cases e) id
  | (n, k) :: r, acc, h => by
    unfold clOf
    split
    · rename_i hk
      refine clOf_some r _ ?_
      by_cases hy : (x == n) = true
      · exact .inr (by rw [List.lookup_cons, hy]; rfl)
      · refine h.imp (fun e => ?_) fun e => ?_
        · rcases List.mem_cons.mp e with e | e
          · cases e; simp at hy
          · exact e
        · rw [List.lookup_cons]; simpa only [hy] using e
    · rename_i hk
      refine clOf_some r acc (h.imp (fun e => ?_) id)
      rcases List.mem_cons.mp e with e | e
      · cases e; exact absurd rfl hk
      · exact e

theorem closure_ok {env : Env} {scope : Scope} (h : ∀ n, (n, NameKind.free) ∈ scope.names → env.cells.lookup n ≠ none) : closureFor scope env = pure (clOf env scope.names []) := by
  unfold closureFor
  have key : ∀ (names : List (Str × NameKind)) (acc : List (Str × Addr)), (∀ n, (n, NameKind.free) ∈ names → env.cells.lookup n ≠ none) →
      (forIn names acc fun (x : Str × NameKind) (r : List (Str × Addr)) => if (x.2 == NameKind.free) = true then (do let c ← cellOf env x.1; pure (ForInStep.yield ((x.1, c) :: r)) : Sem (ForInStep (List (Str × Addr)))) else pure (ForInStep.yield r)) = (pure (clOf env names acc) : Sem _) := by
    intro names
    induction names with
    | nil => intro acc _; rfl
    | cons p r ih =>
      obtain ⟨n, k⟩ := p
      intro acc hn
      rw [List.forIn_cons]
      unfold clOf
      by_cases hk : (k == NameKind.free) = true
      · have hk' : k = .free := by simpa using hk
        subst hk'
        have hc := hn n (.head _)
        cases q : env.cells.lookup n with
        | none => exact absurd q hc
        | some c =>
          have e1 : cellOf env n = pure c := by unfold cellOf; rw [q]
          simp only [e1, if_true, pure_bind, beq_self_eq_true, Option.getD_some]
          exact ih _ fun m hm => hn m (.tail _ hm)
      · simp only [hk, if_false, pure_bind, Bool.false_eq_true]
        exact ih _ fun m hm => hn m (.tail _ hm)
  have := key scope.names [] h
  simpa using this

def compLoc (scope : Scope) (loc : Str → Option V) : Str → Option V := fun y => if scope.names.lookup y = some .free then loc y else none

theorem relabel_lookup (scope : Scope) (env : Env) (y : Str) : (relabel scope env).names.lookup y = (scope.names.lookup y).map fun k => if (k == .free && env.scope.kind == .function && env.kindOf y == some .cell) then .cell else k := by
  unfold relabel
  dsimp only
  induction scope.names with
  | nil => rfl
  | cons p r ih =>
    obtain ⟨n, k⟩ := p
    simp only [List.map_cons]
    by_cases hy : (y == n) = true
    · have : y = n := by simpa using hy
      subst this
      by_cases hc : (k == NameKind.free && env.scope.kind == .function && env.kindOf y == some .cell) = true
      · rw [if_pos hc]; simp only [List.lookup_cons, beq_self_eq_true, Option.map_some, hc, if_true]
      · rw [if_neg hc]; simp only [List.lookup_cons, beq_self_eq_true, Option.map_some, hc]; simp
    · have hy' : (y == n) = false := by simpa using hy
      by_cases hc : (k == NameKind.free && env.scope.kind == .function && env.kindOf n == some .cell) = true
      · rw [if_pos hc]; simp only [List.lookup_cons, hy']; exact ih
      · rw [if_neg hc]; simp only [List.lookup_cons, hy']; exact ih

section
variable {fx : Fx} {X : XP} {σ : St} {W : Wd} {s : Shared}

/-- a comprehension's own frame -/
abbrev fxC (fx : Fx) (scope : Scope) (C : Addr) (ex : List (Addr × Obj)) (m : Str → Option Value) : Fx :=
  { fx with env := compEnvC scope (clOf fx.env scope.names []) C fx.env, ex := ex, mfix := some m }

theorem cells_in {env : Env} {scope : Scope} (h : ∀ n, (n, NameKind.free) ∈ scope.names → env.cells.lookup n ≠ none) {x : Str} {c : Addr} (e : (clOf env scope.names []).lookup x = some c) : env.cells.lookup x = some c :=
  clOf_prop scope.names [] h (fun p hp => by cases hp) _ (lookup_mem e)

theorem fxC_all (all : FxAll fx) {scope : Scope} (co : CompOk fx.env scope) {C : Addr} {ex : List (Addr × Obj)} {m : Str → Option Value} {oC : Obj} (hin : (C, oC) ∈ ex) (hCL : C ≠ fx.L) : FxAll (fxC fx scope C ex m) := by
  have hfree : ∀ n, (n, NameKind.free) ∈ scope.names → fx.env.cells.lookup n ≠ none := fun n hn => all.cdef n (co.free n (co.frees _ hn rfl))
  exact {
    ok := ⟨co.kind, all.ok.handled⟩
    locs := .inr ⟨oC, hin⟩
    cex := fun q => absurd q hCL
    cinj := fun x y c h h' => all.cinj x y c (cells_in hfree h) (cells_in hfree h')
    cdef := fun x h q => by
      have h' : (relabel scope fx.env).names.lookup x = some .cell := h
      rw [relabel_lookup] at h'
      cases e : scope.names.lookup x with
      | none => rw [e] at h'; cases h'
      | some k =>
        rw [e, Option.map_some] at h'
        have hm := lookup_mem e
        have hs := clOf_some (env := fx.env) (x := x) scope.names [] (.inl (by
          split at h'
          · rename_i hc
            have : k = .free := by simp at hc; exact hc.1.1
            rw [← this]; exact hm
          · exact absurd (Option.some.inj h') (co.nocell _ hm)))
        rw [show (clOf fx.env scope.names []).lookup x = none from q] at hs
        cases hs
    scr := all.scr
    egl := all.egl
    ebu := all.ebu
    top := all.top
    part := all.part
    below := all.below
    dicts := all.dicts
    frs := all.frs
    ffr := all.ffr
    fkd := all.fkd
    depth := all.depth
    room := all.room
    mfn := fun q => absurd q hCL
    envf := fun q => absurd q hCL }

/-- into a comprehension's frame and back -/
theorem toC (all : FxAll fx) {scope : Scope} (co : CompOk fx.env scope) {C : Addr} {oC : Obj} {qs : List (Addr × Obj)} (hin : (C, oC) ∈ qs) (R : Rep (fx.pushL qs) σ W s) {l : Str → Option V} (hl : CLR W l oC)
    (hloc : ∀ y v, l y = some v → scope.names.lookup y = some .local) {l' : Str → Option V} (hl' : ∀ y v, l' y = some v → l y = some v ∨ compLoc scope σ.loc y = some v) :
    ∃ fc : Fx, FxAll fc ∧ fc.pg = fx.pg ∧ fc.ns = fx.ns ∧ fc.lev = fx.lev ∧ fc.env = compEnvC scope (clOf fx.env scope.names []) C fx.env ∧ fc.A = fx.A ∧ fc.qt = fx.qt ∧ Rep fc ⟨l', σ.hp⟩ W s ∧
      (∀ σ' W' s', W.le W' → Rep fc σ' W' s' → Rep (fx.pushL qs) ⟨σ.loc, σ'.hp⟩ W' s') := by
  have hfree : ∀ n, (n, NameKind.free) ∈ scope.names → fx.env.cells.lookup n ≠ none := fun n hn => all.cdef n (co.free n (co.frees _ hn rfl))
  refine R.elim fun e g m news G F N Co => ?_
  have hCL : C ≠ fx.L := (N _ (Co.exs _ (List.mem_append_left _ hin))).2.1
  let cf : Addr × Obj → Bool := fun p => fx.env.cells.any fun q => decide (fx.env.cells.lookup q.1 = some p.1)
  have cellIn : ∀ x c o, fx.env.cells.lookup x = some c → (c, o) ∈ news → (c, o) ∈ news.filter cf := fun x c o h1 h2 =>
    List.mem_filter.mpr ⟨h2, List.any_eq_true.mpr ⟨_, lookup_mem h1, decide_eq_true h1⟩⟩
  refine ⟨fxC fx scope C (qs ++ fx.ex ++ news.filter cf) m, fxC_all all co (oC := oC) (List.mem_append_left _ (List.mem_append_left _ hin)) hCL, rfl, rfl, rfl, rfl, rfl, rfl, ?_, ?_⟩
  · refine ⟨e, g, m, news, G, F, N, Co.nd, fun p hp => ?_, fun p hp => ?_, Co.aln, Co.len, Co.obs, Co.tps, fun x v h => ?_, fun x c h => ?_, Co.scc, fun m₀ q => Option.some.inj q, fun p hp t ht => ?_⟩
    · exact (List.mem_append.mp hp).elim (Co.exs p) fun q => (List.mem_filter.mp q).1
    · refine (List.mem_append.mp hp).elim (Co.exd p) fun q => ?_
      obtain ⟨e, _, e1⟩ := List.any_eq_true.mp (List.mem_filter.mp q).2
      exact (Co.cel _ _ (of_decide_eq_true e1)).1
    · rcases hl' x v h with h | h
      · obtain ⟨u, h1, h2⟩ := hl x v h
        exact ⟨u, h1, .comp (lookup_relabel_local (hloc x v h)) (List.mem_append_left _ (List.mem_append_left _ hin)) h2⟩
      · unfold compLoc at h
        split at h
        · rename_i hf
          obtain ⟨u, h1, h2⟩ := Co.loc x v h
          refine ⟨u, h1, ?_⟩
          have hc := co.free x hf
          cases h2 with
          | loc a b c => rw [show fx.env.kindOf x = some .local from a] at hc; cases hc
          | comp a b c => rw [show fx.env.kindOf x = some .local from a] at hc; cases hc
          | @cell c o a b d f =>
            have hs := clOf_some (env := fx.env) (x := x) scope.names [] (.inl (lookup_mem hf))
            obtain ⟨c', hc'⟩ := Option.isSome_iff_exists.mp hs
            have := cells_in hfree hc'
            rw [show fx.env.cells.lookup x = some c from b] at this
            cases this
            refine .cell (.inl ?_) hc' d f
            show (relabel scope fx.env).names.lookup x = some .cell
            rw [relabel_lookup, hf]
            simp [all.ok.kind, hc]
        · cases h
    · exact Co.cel x c (cells_in hfree h)
    · refine (List.mem_append.mp hp).elim (fun q => Co.ext p q t ht) fun q z => ?_
      obtain ⟨e, _, e1⟩ := List.any_eq_true.mp (List.mem_filter.mp q).2
      obtain ⟨_, o, v, h2, h3⟩ := Co.cel _ _ (of_decide_eq_true e1)
      have h4 := Co.tps t ht
      rw [← z] at h4
      rw [key_inj Co.nd h2 h4] at h3
      cases h3
  · intro σ' W' s' le R'
    refine R'.elim fun e' g' m' news' G' F' N' Co' => ?_
    obtain rfl : m' = m := Co'.mfx m rfl
    refine ⟨e', g', m', news', G', F', N', Co'.nd, fun p hp => Co'.exs p (List.mem_append_left _ hp), fun p hp => Co'.exd p (List.mem_append_left _ hp), Co'.aln, Co'.len, Co'.obs, Co'.tps, fun x v h => ?_, fun x c h => ?_, Co'.scc, Co.mfx, fun p hp t ht => Co'.ext p (List.mem_append_left _ hp) t ht⟩
    · obtain ⟨u, h1, h2⟩ := Co.loc x v h
      refine ⟨u, h1.mono le, ?_⟩
      cases h2 with
      | loc a b c => exact .loc a b c
      | comp a b c => exact .comp a b c
      | cell a b c d => exact .cell a b (Co'.exs _ (List.mem_append_right _ (cellIn _ _ _ b c))) d
    · obtain ⟨_, o, v, h2, h3⟩ := Co.cel x c h
      have hin' : (c, o) ∈ qs ++ fx.ex ++ news.filter cf := List.mem_append_right _ (cellIn x c o h h2)
      exact ⟨Co'.exd _ hin', o, v, Co'.exs _ hin', h3⟩

/-- a comprehension's variable is stored -/
theorem storeC {scope : Scope} (hkd : scope.kind = .function) {C : Addr} {cl : List (Str × Addr)} {oC : Obj} {ps : List (Addr × Obj)} (hps : ∀ p ∈ ps, ∀ xs, p.2 ≠ tupObj xs) (ok : ExOk fx (ps ++ [(C, oC)])) (R : Rep (fx.pushL (ps ++ [(C, oC)])) σ W s) (ho : NsObj oC)
    {l : Str → Option V} (hl : CLR W l oC) {x : Str} (hx : scope.names.lookup x = some .local) {v : V} {u : Value} (r : VR W v u) {Q : Unit → Shared → Prop} {E : Value → Shared → Prop}
    (k : ∀ oC' h' tk, NsObj oC' → CLR W (setN l x v) oC' → Rep (fx.pushL (ps ++ [(C, oC')])) σ W { s with heap := h', toks := tk } → Q () { s with heap := h', toks := tk }) :
    wpAny fx.M fx.A (storeName (compEnvC scope cl C fx.env) x u) Q E s := by
  obtain ⟨es, ep, hd, hk⟩ := ho
  have hg := R.exPop (p := (C, oC)) (List.mem_append_right _ (List.mem_singleton.mpr rfl))
  refine wpAny_storeName_local (m := nsFind es) (lookup_relabel_local hx) ⟨oC, es, ep, hg, hd, hk, fun _ => rfl⟩ (fun h' hn hs => ?_) (by show (scope.kind == .class || (scope.kind == .module && _)) = false; rw [hkd]; rfl)
  obtain ⟨o', es', ep', hg', hd', hk', hf'⟩ := hn
  refine k o' h' (s.toks + 1) ⟨es', ep', hd', hk'⟩ (fun y w h => ?_) ?_
  · unfold setN at h
    split at h
    · rename_i q
      subst q
      cases h
      exact ⟨u, r, es', ep', hd', hk', by rw [hf']; simp⟩
    · rename_i q
      obtain ⟨u', h1, es₂, ep₂, h2, h3, h4⟩ := hl y w h
      rw [hd] at h2
      cases h2
      exact ⟨u', h1, es', ep', hd', hk', by rw [hf']; simp [q, h4]⟩
  · refine R.exSwap ok (ps ++ [(C, o')]) (by simp) _ (fun b o hb e => (hs.2 b fun q => hb ?_).trans e) fun p hp => ?_
    · rw [q]
      exact List.mem_map.mpr ⟨(C, oC), List.mem_append_right _ (List.mem_singleton.mpr rfl), rfl⟩
    · rcases List.mem_append.mp hp with hp | hp
      · have := R.exPop (p := p) (List.mem_append_left _ hp)
        refine (hs.2 p.1 fun q => ?_).trans this
        have nd := ok.nd
        rw [List.map_append] at nd
        exact (List.nodup_append.mp nd).2.2 p.1 (List.mem_map_of_mem (f := (·.1)) hp) C (by simp) q
      · rw [List.mem_singleton.mp hp]; exact hg'

def nmV (p : Expr × V) : Option (Str × V) := match p.1 with | .Name x _ => some (x, p.2) | _ => none
/-- the targets that a comprehension binds: a name, or a tuple of names -/
def tgtV (t : Expr) (v : V) : Option (List (Str × V)) :=
  match t with
  | .Name x _ => some [(x, v)]
  | .Tuple es _ _ => match v with
    | .tup vs => if es.length = vs.length then (es.zip vs).mapM nmV
      else none
    | _ => none
  | _ => none

def setAll (l : Str → Option V) : List (Str × V) → Str → Option V
  | [] => l
  | (x, v) :: r => setAll (setN l x v) r

theorem asgInOrderC {scope : Scope} (hkd : scope.kind = .function) {C : Addr} {cl : List (Str × Addr)} {ps : List (Addr × Obj)} (hps : ∀ p ∈ ps, ∀ xs, p.2 ≠ tupObj xs) :
    ∀ (es : List Expr) (vs : List V) (bs : List (Str × V)), es.length = vs.length → ((es.zip vs).mapM nmV) = some bs → (∀ b ∈ bs, scope.names.lookup b.1 = some .local) →
    ∀ (us : List Value) (oC : Obj) (W : Wd) (s : Shared) (l : Str → Option V) (Q : Unit → Shared → Prop) (E : Value → Shared → Prop), VRs W vs us → ExOk fx (ps ++ [(C, oC)]) → Rep (fx.pushL (ps ++ [(C, oC)])) σ W s → NsObj oC → CLR W l oC →
    (∀ oC' h' tk, NsObj oC' → CLR W (setAll l bs) oC' → Rep (fx.pushL (ps ++ [(C, oC')])) σ W { s with heap := h', toks := tk } → Q () { s with heap := h', toks := tk }) →
    wpAny fx.M fx.A (assignInOrder ((assignEach es (compEnvC scope cl C fx.env)).map (·.2)) us) Q E s
  | [], vs, bs, hlen, hb, hn, us, oC, W, s, l, Q, E, r, ok, R, ho, hl, k => by
    simp at hb
    subst hb
    exact assignInOrder_nil (k oC s.heap s.toks ho hl R)
  | e :: es, [], bs, hlen, hb, hn, us, oC, W, s, l, Q, E, r, ok, R, ho, hl, k => by simp at hlen
  | e :: es, v :: vs, bs, hlen, hb, hn, us, oC, W, s, l, Q, E, r, ok, R, ho, hl, k => by
    cases r with
    | @cons _ _ u us r rs =>
      rw [List.zip_cons_cons, List.mapM_cons] at hb
      cases e with
      | Name x p =>
        simp only [nmV, bind_pure_comp, Option.bind_eq_bind, Option.bind_some] at hb
        cases hr : ((es.zip vs).mapM nmV) with
        | none => rw [hr] at hb; simp [nmV] at hb
        | some bs' =>
          rw [hr] at hb
          simp at hb
          subst hb
          refine assignInOrder_cons ?_
          refine wpAny_bind (wpAny_standAt (wpAny_bindName (storeC hkd hps ok R ho hl (hn _ (.head _)) r fun oC' h' tk ho' hl' R' => ?_)))
          exact asgInOrderC hkd hps es vs bs' (by simpa using hlen) hr (fun b hb => hn b (.tail _ hb)) us oC' W _ _ Q E rs (ok.keys (by simp)) R' ho' hl' fun oC'' h'' tk'' a b c => k oC'' h'' tk'' a b c
      | _ => simp [nmV] at hb

theorem asgC (all : FxAll fx) (hq : fx.qt = true) {scope : Scope} (hkd : scope.kind = .function) {C : Addr} {cl : List (Str × Addr)} {oC : Obj} {ps : List (Addr × Obj)} (hps : ∀ p ∈ ps, ∀ xs, p.2 ≠ tupObj xs) (ok : ExOk fx (ps ++ [(C, oC)])) (R : Rep (fx.pushL (ps ++ [(C, oC)])) σ W s) (ho : NsObj oC)
    {t : Expr} {v : V} {u : Value} {bs : List (Str × V)} (ht : tgtV t v = some bs) (hn : ∀ b ∈ bs, scope.names.lookup b.1 = some .local) (r : VR W v u) {Q : Unit → Shared → Prop} {E : Value → Shared → Prop}
    (k : ∀ oC' h' tk, NsObj oC' → CLR W (setAll (fun _ => none) bs) oC' → Rep (fx.pushL (ps ++ [(C, oC')])) σ W { s with heap := h', toks := tk } → Q () { s with heap := h', toks := tk }) :
    wpAny fx.M fx.A (assign t (compEnvC scope cl C fx.env) u) Q E s := by
  unfold tgtV at ht
  split at ht
  · cases ht
    exact wpAny_bind (wpAny_standAt (wpAny_bindName (storeC hkd hps ok R ho (l := fun _ => none) (fun _ _ h => by cases h) (hn _ (.head _)) r k)))
  · rename_i es n p
    split at ht
    · rename_i vs
      split at ht
      · rename_i hlen
        obtain ⟨a, xs, rfl, h2, h3⟩ := R.tup_at r
        have hall : ∀ (es : List Expr) (vs : List V) (bs : List (Str × V)), es.length = vs.length → ((es.zip vs).mapM nmV) = some bs → ∀ env, (assignEach es env).length = es.length ∧ (assignEach es env).findIdx? (·.1) = none := by
          intro es
          induction es with
          | nil => intro vs bs _ _ env; exact ⟨rfl, rfl⟩
          | cons e es ih =>
            intro vs bs hl hb env
            cases vs with
            | nil => simp at hl
            | cons v vs =>
              rw [List.zip_cons_cons, List.mapM_cons] at hb
              cases e with
              | Name x p =>
                cases hr : ((es.zip vs).mapM nmV) with
                | none => rw [hr] at hb; simp [nmV] at hb
                | some bs' =>
                  obtain ⟨i1, i2⟩ := ih vs bs' (by simpa using hl) hr env
                  have e1 : assignEach (Expr.Name x p :: es) env = (false, assign (.Name x p) env) :: assignEach es env := rfl
                  rw [e1]
                  refine ⟨by simp [i1], ?_⟩
                  rw [List.findIdx?_cons, i2]
                  rfl
              | _ => simp [nmV] at hb
        obtain ⟨q1, q2⟩ := hall es vs bs hlen ht (compEnvC scope cl C fx.env)
        refine assign_Tuple_tuple (all.ok.handled hq) (tupObj_isTup h2) (by rw [q1, hlen, h3.length]; simp) q2 fun h' he => ?_
        have R' := R.keep (h' := h') s.toks fun b o e => he b o (Nat.ne_of_lt (Heap.lt_size e)) e
        exact asgInOrderC hkd hps es vs bs hlen ht hn _ oC W _ (fun _ => none) Q E (by simpa using h3) ok R' ho (fun _ _ h => by cases h) fun oC' h'' tk a b c => k oC' h'' tk a b c
      · cases ht
    · cases ht
  · cases ht

def EvTs (fx : Fx) (X : XP) (ifs : List Expr) (σ : St) (Q : Bool → St → Prop) : Prop := ∀ W s, Rep fx σ W s → wpAny fx.M fx.A (forIn ifs true fun c r => if r = true then do let ok ← isTrue c fx.env (eval c fx.env); pure (ForInStep.yield ok) else pure (ForInStep.yield r)) (PB fx W Q) (PX fx W X) s
theorem evTs_nil {Q : Bool → St → Prop} (h : Q true σ) : EvTs fx X [] σ Q := fun _ _ R => wpAny_tests_nil (.here R h)
theorem evTs_one {c : Expr} {Q : Bool → St → Prop} (h : EvB fx X c σ Q) : EvTs fx X [c] σ Q := fun W s R => wpAny_tests_one (h W s R)

theorem compLoop_any {prog : Program} {w : World} {A : Around} {R : Result → Shared → Prop} {s : Shared} {elt target iter : Expr} {ifs : List Expr} {scope : Scope} {pos : Pos} {it acc : Value} {env : Env} (I : Nat → Shared → Prop)
    (turn : ∀ n s, I n s → wpAny (model prog w) A (pyNext it) (fun r s₁ => match r with
      | none => R (.ok .next) s₁
      | some v => wpAny (model prog w) A (letOwnedTupleGo target it v) (fun _ s₁' => wpAny (model prog w) A (assign target env v) (fun _ s₂ =>
          wpAny (model prog w) A (forIn ifs true fun c r => if r = true then do let ok ← isTrue c env (eval c env); pure (ForInStep.yield ok) else pure (ForInStep.yield r)) (fun ok s₃ =>
            if ok = true then wpAny (model prog w) A (eval elt env) (fun x s₄ =>
              wpAny (model prog w) A (call (.builtin "list.append") [acc, x]) (fun _ s₅ => ∃ m, m < n ∧ I m s₅) (notedBy (model prog w) A env fun e s' => R (.error e) s') s₄) (notedBy (model prog w) A env fun e s' => R (.error e) s') s₃
            else ∃ m, m < n ∧ I m s₃) (notedBy (model prog w) A env fun e s' => R (.error e) s') s₂) (notedBy (model prog w) A env fun e s' => R (.error e) s') s₁') (notedBy (model prog w) A env fun e s' => R (.error e) s') s₁) (notedBy (model prog w) A env fun e s' => R (.error e) s') s)
    (n : Nat) (h : I n s) :
    codeAny (model prog w) A (.compLoop (.ListComp elt [⟨target, iter, ifs, 0⟩] scope pos) 0 it acc env) R s := by
  refine codeAny_loop rfl I (fun n s hI => ?_) n h
  show wpAny _ A ((compTurn (.ListComp elt [⟨target, iter, ifs, 0⟩] scope pos) 0 it acc env).onRaise (fun x => do noteFrame x env; theTreesLotGoes x)) _ _ s
  refine wpAny_noted ?_
  rw [compTurn_list]
  refine wpAny_bind (wpAny_standAt (wpAny_bind (wpAny_mono (turn n s hI) (fun r s₁ h₁ => ?_) fun _ _ h' => h')))
  cases r with
  | none => exact wpAny_pure h₁
  | some v =>
    refine wpAny_bind (wpAny_mono h₁ (fun _ s₁' h₁' => ?_) fun _ _ h' => h')
    refine wpAny_bind (wpAny_mono h₁' (fun _ s₂ h₂ => wpAny_bind (wpAny_mono h₂ (fun ok s₃ h₃ => ?_) fun _ _ h' => h')) fun _ _ h' => h')
    cases ok with
    | false => exact wpAny_pure ⟨rfl, h₃⟩
    | true =>
      exact wpAny_bind (wpAny_bind (wpAny_mono h₃ (fun x s₄ h₄ => wpAny_bind (wpAny_mono h₄ (fun _ s₅ h₅ => wpAny_pure (wpAny_pure ⟨rfl, h₅⟩)) fun _ _ h' => h')) fun _ _ h' => h'))

/-- what a comprehension's turns do -/
def CompJ (fx : Fx) (elt t : Expr) (ifs : List Expr) (scope : Scope) (its : List V) (need : St → Prop) (σ₁ : St) (J : Nat → List O → Prop) : Prop :=
  J 0 (σ₁.hp ++ [.list []]) ∧ (∀ k hp, J k hp → need ⟨σ₁.loc, hp⟩) ∧ its.length ≤ sizeLine ∧
  ∀ (k : Nat) hp (hk : k < its.length), J k hp → ∃ bs, tgtV t its[k] = some bs ∧ (∀ b ∈ bs, scope.names.lookup b.1 = some .local) ∧
    ∀ fc : Fx, FxAll fc → fc.pg = fx.pg → fc.ns = fx.ns → fc.lev = fx.lev → fc.qt = fx.qt → fc.env.scope = relabel scope fx.env →
      EvTs fc X0 ifs ⟨setAll (compLoc scope σ₁.loc) bs, hp⟩ (fun b σ₂ => if b then EvE fc X0 elt σ₂ (fun v σ₃ => ∃ acc, σ₃.hp[σ₁.hp.length]? = some (.list acc) ∧ acc.length ≤ k ∧ J (k + 1) (σ₃.hp.set σ₁.hp.length (.list (acc ++ [v])))) else J (k + 1) σ₂.hp)

theorem setAll_or (a : Str → Option V) : ∀ (bs : List (Str × V)) (b : Str → Option V), setAll (fun y => (b y).or (a y)) bs = fun y => (setAll b bs y).or (a y)
  | [], _ => rfl
  | (x, w) :: r, b => by
    have e : setN (fun y => (b y).or (a y)) x w = fun y => ((setN b x w) y).or (a y) := by
      funext y
      unfold setN
      split <;> simp
    show setAll (setN (fun y => (b y).or (a y)) x w) r = _
    rw [e]
    exact setAll_or a r (setN b x w)
theorem setAll_split {a : Str → Option V} {bs : List (Str × V)} {y : Str} {v : V} (h : setAll a bs y = some v) : setAll (fun _ => none) bs y = some v ∨ a y = some v := by
  have e := congrFun (setAll_or a bs fun _ => none) y
  simp only [Option.none_or] at e
  rw [e] at h
  cases q : setAll (fun _ => none) bs y with
  | none => rw [q, Option.none_or] at h; exact .inr h
  | some w => rw [q] at h; simp at h; subst h; exact .inl rfl
theorem setAll_mem : ∀ {bs : List (Str × V)} {l : Str → Option V} {y : Str} {v : V}, setAll l bs y = some v → (∃ b ∈ bs, b.1 = y) ∨ l y = some v
  | [], _, _, _, h => .inr h
  | (x, w) :: r, l, y, v, h => by
    rcases setAll_mem (bs := r) h with ⟨b, hb, e⟩ | q
    · exact .inl ⟨b, .tail _ hb, e⟩
    · unfold setN at q
      split at q
      · rename_i e
        exact .inl ⟨_, .head _, e.symm⟩
      · exact .inr q

theorem comp_core (all : FxAll fx) (hq : fx.qt = true) {elt t iter : Expr} {ifs : List Expr} {scope : Scope} {pos pos' : Pos} {use : Option (Value → Sem Unit)} (co : CompOk fx.env scope) (hs : ∀ x, foldedSetIterable iter fx.env x = pure x) {Qr : Value → Shared → Prop}
    {P : List V → (St → Prop) → St → Prop} (hI : IterT fx X iter σ P) (R : Rep fx σ W s)
    (body : ∀ its need σ₁, P its need σ₁ → ∃ J, CompJ fx elt t ifs scope its need σ₁ J ∧
      ∀ C oC D hp W' s', ExOk fx [(C, oC)] → NsObj oC → W.le W' → Rep (fx.pushL [(C, oC)]) ⟨σ₁.loc, hp⟩ W' s' → W'.al[σ₁.hp.length]? = some D → J its.length hp → compPost fx.M fx.A (PX fx W X) use Qr (.ref D) C (.ok .next) s') :
    wpAny fx.M fx.A (comprehension (.ListComp elt [⟨t, iter, ifs, 0⟩] scope pos) scope fx.env pos' (newList []) false (eval iter fx.env) use) Qr (PX fx W X) s := by
  have hfree : ∀ n, (n, NameKind.free) ∈ scope.names → fx.env.cells.lookup n ≠ none := fun n hn => all.cdef n (co.free n (co.frees _ hn rfl))
  refine wpAny_comprehension_free (g := ⟨t, iter, ifs, 0⟩) (gs := []) rfl hs (closure_ok hfree) co.kind co.names (wpAny_mono (hI W s R) (fun xv s₁ h₁ => wpAny_mono h₁ (fun it s₂ h₂ => ?_) fun _ _ e => e) fun _ _ e => e)
  obtain ⟨Io, st, ps, W₁, σ₁, its, need, rfl, le₁, S, hst, hex, R₁, hP⟩ := h₂
  obtain ⟨J, ⟨h0, hneed, hsz, turn⟩, fin⟩ := body its need σ₁ hP
  -- the list
  obtain ⟨W₂, le₂, hal₂, R₂⟩ := R₁.alloc (o := .list []) (ob := listObj [] 0) s₂.toks rfl fun W' _ => .list 0 .nil
  refine wpAny_newObj_type ?_ (by size_fits)
  have hn₁ : W₁.al.length = σ₁.hp.length := by obtain ⟨_, _, _, _, _, _, _, c⟩ := R₁; exact c.len
  have hD : W₂.al[σ₁.hp.length]? = some s₂.heap.objs.size := by rw [hal₂, ← hn₁]; simp
  -- the names
  refine wpAny_newFunctionEnv co.nocell (by intro y hy; simp at hy) (fun h₃ hns₃ hsb₃ => ?_) co.kind
  dsimp only at hns₃ hsb₃ ⊢
  generalize hH : s₂.heap.push { cls := .type "list", dict := none, data := .seq ([] : List Value).toArray } = H2 at hns₃ hsb₃ R₂ ⊢
  obtain ⟨oC, es, ep, hgC, hdC, hkC, hfC⟩ := hns₃
  have old : ∀ b o, H2.get? b = some o → h₃.get? b = some o := fun b o e => hsb₃.extBut b o (Nat.ne_of_lt (Heap.lt_size e)) (Heap.get?_push_of_some _ e)
  obtain ⟨R₃, ok₃⟩ := Rep.exPush (s := { s₂ with heap := H2, toks := s₂.toks }) R₂ [(H2.objs.size, oC)] (by simp) s₂.toks old (fun p hp => by rw [List.mem_singleton.mp hp]; exact Nat.le_refl _)
    (fun p hp => by rw [List.mem_singleton.mp hp]; exact hgC) (R₂.locals_at (all.pushL hex))
  -- the frame's own things in the order that the loop wants
  have okC : ExOk fx [(H2.objs.size, oC)] := ⟨by simp, fun p hp => ok₃.dis p (List.mem_append_right _ hp), ok₃.cel, ok₃.loc⟩
  have okP : ExOk (fx.pushL [(H2.objs.size, oC)]) ps := ⟨hex.nd, fun p hp q => by
    rcases List.mem_append.mp hp with hp | hp
    · rw [List.mem_singleton.mp hp] at q
      obtain ⟨o, ho⟩ := mem_keys q
      exact ok₃.dis _ (List.mem_append_left _ ho) (by simp)
    · exact hex.dis p hp q, hex.cel, hex.loc⟩
  have perm : ∀ {σ' W' s'} {a b : List (Addr × Obj)}, Rep ((fx.pushL a).pushL b) σ' W' s' → Rep ((fx.pushL b).pushL a) σ' W' s' := by
    intro σ' W' s' a b R'
    refine R'.elim fun e g m news G F N c => ?_
    have hmem : ∀ p, p ∈ a ++ (b ++ fx.ex) → p ∈ b ++ (a ++ fx.ex) := fun p hp => by
      simp only [List.mem_append] at hp ⊢
      rcases hp with h | h | h <;> simp [h]
    have hmem' : ∀ p, p ∈ b ++ (a ++ fx.ex) → p ∈ a ++ (b ++ fx.ex) := fun p hp => by
      simp only [List.mem_append] at hp ⊢
      rcases hp with h | h | h <;> simp [h]
    refine ⟨e, g, m, news, G, F, N, c.nd, fun p hp => c.exs p (hmem p hp), fun p hp => c.exd p (hmem p hp), c.aln, c.len, c.obs, c.tps, fun x v h => ?_, c.cel, c.scc, c.mfx, fun p hp t ht => c.ext p (hmem p hp) t ht⟩
    obtain ⟨u, h1, h2⟩ := c.loc x v h
    refine ⟨u, h1, ?_⟩
    cases h2 with
    | loc a b c => exact .loc a b c
    | comp a b c => exact .comp a (hmem' _ b) c
    | cell a b c d => exact .cell a b c d
  have R₄ := perm R₃
  have loop : ∀ s₃ : Shared, s₃ = { s₂ with heap := h₃, toks := s₂.toks } →
      codeAny fx.M fx.A (.compLoop (.ListComp elt [⟨t, iter, ifs, 0⟩] scope pos) 0 (.ref Io) (.ref s₂.heap.objs.size) (compEnvC scope (clOf fx.env scope.names []) H2.objs.size fx.env))
        (compPost fx.M fx.A (PX fx W X) use Qr (.ref s₂.heap.objs.size) H2.objs.size) s₃ := by
    rintro s₃ rfl
    refine compLoop_any (fun n s' => ∃ k ps' oC' W' hp, n = its.length - k ∧ k ≤ its.length ∧ W₂.le W' ∧ st k ps' ∧ ExOk fx [(H2.objs.size, oC')] ∧ ExOk (fx.pushL [(H2.objs.size, oC')]) ps' ∧ NsObj oC' ∧
      Rep ((fx.pushL [(H2.objs.size, oC')]).pushL ps') ⟨σ₁.loc, hp⟩ W' s' ∧ J k hp) ?_ its.length ⟨0, ps, oC, W₂, _, rfl, Nat.zero_le _, .refl _, hst, okC, okP, ⟨es, ep, hdC, hkC⟩, R₄, h0⟩
    rintro n s' ⟨k, ps', oC', W', hp, rfl, hk, le', hst', okC', okP', hoC', R', hJ⟩
    have LE' := le₁.trans (le₂.trans le')
    rcases Nat.lt_or_ge k its.length with hlt | hge
    · refine S.next [(H2.objs.size, oC')] k ps' _ W' s' hlt (le₂.trans le') hst' okP' R' (hneed k hp hJ) _ _ fun u ps'' W'' h'' tk'' hst'' hkey le'' r'' R'' => ?_
      refine S.own [(H2.objs.size, oC')] (k + 1) ps'' _ W'' _ t u hst'' R'' _ _ ?_
      have okP'' := okP'.keys hkey
      have okJ := okC'.join okP''
      rw [pushL_pushL] at R''
      obtain ⟨bs, htv, hloc, ht⟩ := turn k hp hlt hJ
      have hps'' := S.tup (k + 1) ps'' hst''
      refine asgC all hq co.kind hps'' okJ R'' hoC' htv hloc r'' fun oC₂ h₅ tk₅ ho₂ hl₂ R₅ => ?_
      have okC₂ : ExOk fx [(H2.objs.size, oC₂)] := okC'.keys rfl
      have okP₂ : ExOk (fx.pushL [(H2.objs.size, oC₂)]) ps'' := ExOk.left (qs := [(H2.objs.size, oC')]) rfl okP''
      obtain ⟨fc, allc, e1, e2, e3, e4, e5, e6, Rc, back⟩ := toC all co (List.mem_append_right _ (List.mem_singleton.mpr rfl)) R₅ hl₂ (fun y v h => by
        rcases setAll_mem h with ⟨b, hb, rfl⟩ | q
        · exact hloc b hb
        · cases q) (l' := setAll (compLoc scope σ₁.loc) bs) (fun y v h => setAll_split h)
      have hM : fc.M = fx.M := by show model fc.pg.prog fc.pg.w = model fx.pg.prog fx.pg.w; rw [e1]
      have h₆ := ht fc allc e1 e2 e3 e6 (by rw [e4]; rfl) W'' _ Rc
      rw [hM, e5, e4] at h₆
      refine wpAny_mono h₆ ?_ fun _ _ x => x.never.elim
      refine fun b s₆ zz => zz.elim fun W₆ σ₆ le₆ R₆ h₆' => ?_
      cases b with
      | true =>
        have h₇ := h₆' W₆ s₆ R₆
        rw [hM, e5, e4] at h₇
        simp only [if_true]
        refine wpAny_mono h₇ ?_ fun _ _ x => x.never.elim
        rintro y s₇ ⟨W₇, σ₇, v, le₇, R₇, r₇, acc, hacc, hlen, hJ₇⟩
        have R₈ := back σ₇ W₇ s₇ (le₆.trans le₇) R₇
        have leT : W₂.le W₇ := ((le'.trans le'').trans le₆).trans le₇
        have h₈ := append_ok (fx := fx.pushL (ps'' ++ [(H2.objs.size, oC₂)])) (X := X0) (σ := ⟨σ₁.loc, σ₇.hp⟩) (Q := fun r σ' => J (k + 1) σ'.hp ∧ σ'.loc = σ₁.loc) (v := v) hacc (by omega) ⟨hJ₇, rfl⟩ W₇ s₇ [.ref s₂.heap.objs.size, y] R₈
          (.cons (.ref (prefix_get leT.1 hD)) (.cons r₇ .nil))
        refine wpAny_mono h₈ ?_ fun _ _ x => x.never.elim
        rintro z s₉ ⟨W₉, σ₉, v₉, le₉, R₉, r₉, hJ₉, hl₉⟩
        obtain ⟨loc₉, hp₉⟩ := σ₉
        dsimp only at hl₉ hJ₉
        subst hl₉
        refine ⟨its.length - (k + 1), by omega, k + 1, ps'', oC₂, W₉, hp₉, rfl, hlt, leT.trans le₉, hst'', okC₂, okP₂, ho₂, ?_, hJ₉⟩
        rw [pushL_pushL]
        exact R₉
      | false =>
        have R₈ := back σ₆ W₆ s₆ le₆ R₆
        refine ⟨its.length - (k + 1), by omega, k + 1, ps'', oC₂, W₆, σ₆.hp, rfl, hlt, (le'.trans le'').trans le₆, hst'', okC₂, okP₂, ho₂, ?_, h₆'⟩
        rw [pushL_pushL]
        exact R₈
    · obtain rfl : k = its.length := Nat.le_antisymm hk hge
      refine S.done [(H2.objs.size, oC')] ps' _ W' s' (le₂.trans le') hst' okP' R' (hneed _ hp hJ) _ _ fun h'' tk'' R'' => ?_
      exact fin H2.objs.size oC' s₂.heap.objs.size hp W' _ okC' hoC' LE' R'' (prefix_get le'.1 hD) hJ
  exact codeAny_compStart_list (loop _ rfl) (S.self [(H2.objs.size, oC)] 0 ps _ W₂ _ hst R₄ _ _ (loop _ rfl))
end
end Mine

set_option autoImplicit false
namespace Mine
open PySem PySem.W PySem.Calls PySem.Spec PyProof.Rows

section
variable {fx : Fx} {X : XP} {σ : St} {W : Wd} {s : Shared}

theorem ns_at {h : Heap} {C : Addr} {oC : Obj} (hg : h.get? C = some oC) (ho : NsObj oC) : ∃ m, h.Ns C m := by
  obtain ⟨es, ep, hd, hk⟩ := ho
  exact ⟨nsFind es, oC, es, ep, hg, hd, hk, fun _ => rfl⟩

theorem evComp (all : FxAll fx) (hq : fx.qt = true) {elt t iter : Expr} {ifs : List Expr} {scope : Scope} {pos : Pos} {Q : V → St → Prop} (co : CompOk fx.env scope) (hs : ∀ x, foldedSetIterable iter fx.env x = pure x)
    (h : IterT fx X iter σ (fun its need σ₁ => ∃ J, CompJ fx elt t ifs scope its need σ₁ J ∧ ∀ hp, J its.length hp → Q (.ref σ₁.hp.length) ⟨σ₁.loc, hp⟩)) : EvE fx X (.ListComp elt [⟨t, iter, ifs, 0⟩] scope pos) σ Q := by
  intro W s R
  show wpAny fx.M fx.A (comprehension (.ListComp elt [⟨t, iter, ifs, 0⟩] scope pos) scope fx.env _ (newList []) false (eval iter fx.env) none) _ _ s
  refine comp_core all hq co hs h R fun its need σ₁ ⟨J, hJ, fin⟩ => ⟨J, hJ, fun C oC D hp W' s' okC ho le R' hD hJ' => ?_⟩
  obtain ⟨m, hm⟩ := ns_at (R'.exPop (List.mem_singleton.mpr rfl)) ho
  refine ⟨m, hm, fun h' hs' => ?_⟩
  have R'' := R'.exDrop okC s'.toks (h' := h') fun b o hb e => (hs'.2 b (by simpa using hb)).trans e
  exact ⟨W', _, .ref σ₁.hp.length, le, R'', .ref hD, fin hp hJ'⟩

theorem evAssignComp (all : FxAll fx) (hq : fx.qt = true) {elt t iter : Expr} {ifs : List Expr} {scope : Scope} {pos p spos : Pos} {y : Str} {Q : Fl → St → Prop} (hy : isVar fx y) (co : CompOk fx.env scope) (hs : ∀ x, foldedSetIterable iter fx.env x = pure x)
    (h : IterT fx X iter σ (fun its need σ₁ => ∃ J, CompJ fx elt t ifs scope its need σ₁ J ∧ ∀ hp, J its.length hp → Q .next ⟨setN σ₁.loc y (.ref σ₁.hp.length), hp⟩)) :
    EvS fx X (.Assign [.Name y p] (.ListComp elt [⟨t, iter, ifs, 0⟩] scope pos) spos) σ Q := by
  have hsw : ∃ b, swapsWith (.ListComp elt [⟨t, iter, ifs, 0⟩] scope pos) (some (.Name y p)) spos.line fx.env = pure b := ⟨_, rfl⟩
  obtain ⟨b, hb⟩ := hsw
  intro W s R
  cases b with
  | false =>
    refine wpAny_Assign_Name (wpAny_mono (evComp all hq co hs (Q := fun v σ' => Q .next (σ'.set y v)) (h.mono fun its need σ' ⟨J, a, b⟩ => ⟨J, a, fun hp q => b hp q⟩) W s R) ?_ fun _ _ x => x) hb
    refine fun u s₁ zz => zz.elim fun W₁ σ₁ v le₁ R₁ r₁ h₁ => ?_
    exact storeVar all hy R₁ r₁ fun _ _ R₂ => ⟨W₁, _, .next, le₁, R₂, .next, h₁⟩
  | true =>
    rw [exec_Assign_Name_used _ _ _ _ hb]
    refine wpAny_bind (wpAny_standAt (wpAny_bind ?_))
    show wpAny _ _ (do let _ ← comprehension (.ListComp elt [⟨t, iter, ifs, 0⟩] scope pos) scope fx.env _ (newList []) false (eval iter fx.env) (some (assign (.Name y p) fx.env))) _ _ s
    refine wpAny_bind (wpAny_mono (comp_core all hq co hs h R (use := some (assign (.Name y p) fx.env)) (Qr := fun _ s' => PF fx W Q .next s') fun its need σ₁ ⟨J, hJ, fin⟩ => ⟨J, hJ, fun C oC D hp W' s' okC ho le R' hD hJ' => ?_⟩)
      (fun _ s' hq' => wpAny_pure (wpAny_pure hq')) fun _ _ x => x)
    show wpAny fx.M fx.A (assign (.Name y p) fx.env (.ref D)) _ _ s'
    have hy' : isVar (fx.pushL [(C, oC)]) y := hy
    refine wpAny_mono (asgName (X := X0) (all.pushL okC) hy' (Q := fun σ' => σ' = (⟨setN σ₁.loc y (.ref σ₁.hp.length), hp⟩ : St)) (p := p) rfl W' s' (.ref D) R' (.ref hD)) ?_ fun _ _ x => x.never.elim
    rintro _ s₂ ⟨W₂, σ₂, le₂, R₂, rfl⟩
    obtain ⟨m, hm⟩ := ns_at (R₂.exPop (List.mem_singleton.mpr rfl)) ho
    refine ⟨m, hm, fun h' hs' => ?_⟩
    have R'' := R₂.exDrop okC s₂.toks (h' := h') fun b o hb e => (hs'.2 b (by simpa using hb)).trans e
    exact ⟨W₂, _, .next, le.trans le₂, R'', .next, fin hp hJ'⟩

theorem evCallF (all : FxAll fx) {f : Str} {p pos : Pos} {a : Addr} {e : Expr} {rest : List Expr} {Q : V → St → Prop} (hf : fx.pg.gl f = some (.ref a)) (hk : fx.env.kindOf f = some .globalImplicit) (hd : (f == ("__debug__" : Str)) = false) (hfn : fnIn fx.pg.K a = true) (hs : (e :: rest).all noStar = true)
    (h : EvEs fx X (e :: rest) σ (fun vs σ₁ => CallT fx X (.ref a) vs σ₁ Q)) : EvE fx X (.Call (.Name f p) (e :: rest) [] pos) σ Q := by
  intro W s R
  rw [List.all_cons, Bool.and_eq_true] at hs
  refine Call_Name rfl (all.glb f _ p hf hk σ W s _ _ R ?_ hd)
  unfold fnIn at hfn
  split at hfn
  · rename_i c d fd sl q
    refine callWith_def (o := ⟨c, d, .func fd, sl⟩) (fd := fd) rfl (wpAny_mono (h W s pos R) ?_ fun _ _ x => x) (star_cons hs.1 _ _)
    refine fun us s₁ zz => zz.elim fun W₁ σ₁ vs le₁ R₁ r₁ h₁ => ?_
    refine ⟨?_, wpAny_mono (h₁ W₁ s₁ us R₁ r₁) (fun _ _ x => x.mono le₁ fun _ _ y => y) fun _ _ x => x.mono le₁ fun _ _ y => y⟩
    exact all.stays R₁ _ _ (all.part _ _ q)
  · cases hfn

theorem callT_of (all : FxAll fx) {lev : Nat} {qt : Bool} {a : Addr} {vs : List V} {Q : V → St → Prop} (hl : lev ≤ fx.lev) (hq : qt = true → fx.qt = true) (h : CallOK fx.pg lev qt fx.ns a vs σ.hp (fun c hp' => X c ⟨σ.loc, hp'⟩) (fun v hp' => Q v ⟨σ.loc, hp'⟩)) : CallT fx X (.ref a) vs σ Q :=
  fun W s us R r => wpAny_mono (h fx all rfl hl rfl hq σ.loc W s us R r) (fun _ _ x => x.mono (.refl _) fun v σ' ⟨y, z⟩ => by obtain ⟨l, hp⟩ := σ'; dsimp only at y z; subst y; exact z)
    fun _ _ x => x.mono (.refl _) fun v σ' ⟨y, z⟩ => by obtain ⟨l, hp⟩ := σ'; dsimp only at y z; subst y; exact z

/-- targets of a frame's own -/
theorem asgInOrder (all : FxAll fx) : ∀ (es : List Expr) (vs : List V) (bs : List (Str × V)), es.length = vs.length → ((es.zip vs).mapM nmV) = some bs → (∀ b ∈ bs, isVar fx b.1) →
    ∀ (us : List Value) (σ : St) (W : Wd) (s : Shared) (Q : Unit → Shared → Prop) (E : Value → Shared → Prop), VRs W vs us → Rep fx σ W s →
    (∀ h' tk, Rep fx ⟨setAll σ.loc bs, σ.hp⟩ W { s with heap := h', toks := tk } → Q () { s with heap := h', toks := tk }) →
    wpAny fx.M fx.A (PySem.assignInOrder ((assignEach es fx.env).map (·.2)) us) Q E s
  | [], vs, bs, hlen, hb, hn, us, σ, W, s, Q, E, r, R, k => by
    simp at hb
    subst hb
    exact assignInOrder_nil (k s.heap s.toks R)
  | e :: es, [], bs, hlen, hb, hn, us, σ, W, s, Q, E, r, R, k => by simp at hlen
  | e :: es, v :: vs, bs, hlen, hb, hn, us, σ, W, s, Q, E, r, R, k => by
    cases r with
    | @cons _ _ u us r rs =>
      rw [List.zip_cons_cons, List.mapM_cons] at hb
      cases e with
      | Name x p =>
        simp only [nmV, bind_pure_comp, Option.bind_eq_bind, Option.bind_some] at hb
        cases hr : ((es.zip vs).mapM nmV) with
        | none => rw [hr] at hb; simp [nmV] at hb
        | some bs' =>
          rw [hr] at hb
          simp at hb
          subst hb
          refine assignInOrder_cons ?_
          refine wpAny_bind (wpAny_standAt (wpAny_bindName (storeVar all (hn _ (.head _)) R r fun h' tk R' => ?_)))
          exact asgInOrder all es vs bs' (by simpa using hlen) hr (fun b hb => hn b (.tail _ hb)) us _ W _ Q E rs R' fun h'' tk'' a => k h'' tk'' a
      | _ => simp [nmV] at hb

theorem tgt_each : ∀ (es : List Expr) (vs : List V) (bs : List (Str × V)), es.length = vs.length → ((es.zip vs).mapM nmV) = some bs → ∀ env, (assignEach es env).length = es.length ∧ (assignEach es env).findIdx? (·.1) = none := by
  intro es
  induction es with
  | nil => intro vs bs _ _ env; exact ⟨rfl, rfl⟩
  | cons e es ih =>
    intro vs bs hl hb env
    cases vs with
    | nil => simp at hl
    | cons v vs =>
      rw [List.zip_cons_cons, List.mapM_cons] at hb
      cases e with
      | Name x p =>
        cases hr : ((es.zip vs).mapM nmV) with
        | none => rw [hr] at hb; simp [nmV] at hb
        | some bs' =>
          obtain ⟨i1, i2⟩ := ih vs bs' (by simpa using hl) hr env
          have e1 : assignEach (Expr.Name x p :: es) env = (false, assign (.Name x p) env) :: assignEach es env := rfl
          rw [e1]
          refine ⟨by simp [i1], ?_⟩
          rw [List.findIdx?_cons, i2]
          rfl
      | _ => simp [nmV] at hb

theorem asgT_of (all : FxAll fx) (hq : fx.qt = true) {t : Expr} {v : V} {bs : List (Str × V)} {Q : St → Prop} (ht : tgtV t v = some bs) (hn : ∀ b ∈ bs, isVar fx b.1) (h : Q ⟨setAll σ.loc bs, σ.hp⟩) : AsgT fx X t v σ Q := by
  unfold tgtV at ht
  split at ht
  · cases ht
    exact asgName all (hn _ (.head _)) h
  · rename_i es n p
    split at ht
    · rename_i vs
      split at ht
      · rename_i hlen
        intro W s u R r
        obtain ⟨a, xs, rfl, h2, h3⟩ := R.tup_at r
        obtain ⟨q1, q2⟩ := tgt_each es vs bs hlen ht fx.env
        refine assign_Tuple_tuple (all.ok.handled hq) (tupObj_isTup h2) (by rw [q1, hlen, h3.length]; simp) q2 fun h' he => ?_
        have R' := R.keep (h' := h') s.toks fun b o e => he b o (Nat.ne_of_lt (Heap.lt_size e)) e
        exact asgInOrder all es vs bs hlen ht hn _ σ W _ _ _ (by simpa using h3) R' fun h'' tk a => ⟨W, _, .refl _, a, h⟩
      · cases ht
    · cases ht
  · cases ht

/-! stores into lists -/
def SetT (fx : Fx) (X : XP) (o i v : V) (σ : St) (Q : St → Prop) : Prop :=
  ∀ W s u₁ u₂ u₃, Rep fx σ W s → VR W o u₁ → VR W i u₂ → VR W v u₃ → wpAny fx.M fx.A (setItem u₁ u₂ u₃) (PU fx W Q) (PX fx W X) s

theorem set_list {j : Nat} {xs : List V} {k : Int} {v : V} {Q : St → Prop} (ho : σ.hp[j]? = some (.list xs)) (h0 : 0 ≤ k) (h1 : k < xs.length) (hk : k < 2 ^ 63) (h : Q ⟨σ.loc, σ.hp.set j (.list (xs.set k.toNat v))⟩) : SetT fx X (.ref j) (.int k) v σ Q := by
  intro W s u₁ u₂ u₃ R r₁ r₂ r₃
  obtain ⟨a, ys, n, rfl, ha, h2, h3⟩ := R.list_at ho r₁
  cases r₂
  refine ki_setAt h2 h0 hk (by simp [← h3.length]; exact h1) ⟨W, _, .refl _, R.upd ho ha (o' := .list (xs.set k.toNat v)) (ob' := listObj (ys.set k.toNat u₃) n) (.list n (h3.set _ r₃)) s.toks (Heap.SameBut.update ..).extBut ?_, h⟩
  rw [Heap.get?_update_self _ h2 rfl]
  simp [Obj.mapSeq]

theorem evAssignSub {o i e : Expr} {p pos : Pos} {Q : Fl → St → Prop} (h : EvE fx X e σ (fun v σ₁ => EvE fx X o σ₁ (fun ov σ₂ => EvE fx X i σ₂ (fun iv σ₃ => SetT fx X ov iv v σ₃ (fun σ₄ => Q .next σ₄))))) (hc : notComp e = true) : EvS fx X (.Assign [.Subscript o i p] e pos) σ Q := by
  intro W s R
  refine wpAny_Assign_Subscript (wpAny_mono (h W s R) ?_ fun _ _ x => x) (swaps_false hc _ _ _)
  refine fun u₁ s₁ zz => zz.elim fun W₁ σ₁ v₁ le₁ R₁ r₁ h₁ => ?_
  refine wpAny_mono (h₁ W₁ s₁ R₁) ?_ fun _ _ x => x.mono le₁ fun _ _ y => y
  refine fun u₂ s₂ zz => zz.elim fun W₂ σ₂ v₂ le₂ R₂ r₂ h₂ => ?_
  refine wpAny_mono (h₂ W₂ s₂ R₂) ?_ fun _ _ x => x.mono (le₁.trans le₂) fun _ _ y => y
  refine fun u₃ s₃ zz => zz.elim fun W₃ σ₃ v₃ le₃ R₃ r₃ h₃ => ?_
  refine wpAny_mono (h₃ W₃ s₃ u₂ u₃ u₁ R₃ (r₂.mono le₃) r₃ (r₁.mono (le₂.trans le₃))) ?_ fun _ _ x => x.mono ((le₁.trans le₂).trans le₃) fun _ _ y => y
  refine fun _ s₄ zz => zz.elim fun W₄ σ₄ le₄ R₄ h₄ => ?_
  exact ⟨W₄, σ₄, .next, ((le₁.trans le₂).trans le₃).trans le₄, R₄, .next, h₄⟩
end
end Mine

set_option autoImplicit false
namespace Mine
open PySem PySem.W PySem.Calls PySem.Spec PyProof.Rows

theorem ofString_inj (a b : String) : (Str.ofString a = Str.ofString b) = (a = b) := by
  refine propext ⟨fun h => ?_, fun h => h ▸ rfl⟩
  rw [Str.ofString_eq_toList, Str.ofString_eq_toList] at h
  have h1 : (a.toList.map Char.toNat) = (b.toList.map Char.toNat) := by simpa using h
  have h2 : a.toList = b.toList := by
    have inj : ∀ c d : Char, c.toNat = d.toNat → c = d := fun c d e => Char.toNat_inj.mp e
    exact List.map_inj_right inj |>.mp h1
  exact String.toList_inj.mp h2

section
variable {fx : Fx} {X : XP} {σ : St} {W : Wd} {s : Shared}

/-! methods -/
def baseOk : Expr → Bool
  | .Call .. => false
  | _ => true
theorem attributeBase_plain {o : Expr} (h : baseOk o = true) (attr : Str) (env : Env) (whole : Sem Value) : attributeBase o attr env whole = whole := by
  cases o <;> first | rfl | cases h

theorem star_all : ∀ {es : List Expr}, es.all noStar = true → ∀ (pos : Pos) (env : Env), (backTo pos (starEach es env)).all (!·.1) = true
  | [], _, _, _ => rfl
  | e :: r, h, pos, env => by
    rw [List.all_cons, Bool.and_eq_true] at h
    rw [star_cons h.1]
    have := star_all h.2 pos env
    simpa [backTo] using this

theorem evMeth {o : Expr} {name : Str} {apos pos : Pos} {args : List Expr} {Q : V → St → Prop} (hb : baseOk o = true) (ha : args.all noStar = true) (hn : args.length < 30) (hp : (apos.endLine == pos.line) = true)
    (h : EvE fx X o σ (fun ov σ₁ => ∃ id, GetM fx ov name id σ₁ ∧ EvEs fx X args σ₁ (fun vs σ₂ => CallT fx X (.builtin id) (ov :: vs) σ₂ Q))) : EvE fx X (.Call (.Attribute o name apos) args [] pos) σ Q := by
  intro W s R
  have he : eval (.Call (.Attribute o name apos) args [] pos) fx.env = (do
      let ov ← attributeBase o name fx.env (eval o fx.env)
      standAt apos.atName
      methodCall o name apos pos fx.env ov (args.length + 0) (backTo pos (starEach args fx.env)) []) := rfl
  rw [he, attributeBase_plain hb]
  refine wpAny_bind (wpAny_mono (h W s R) ?_ fun _ _ x => x)
  rintro u s₁ ⟨W₁, σ₁, ov, le₁, R₁, r₁, id, hg, h₁⟩
  refine wpAny_bind (wpAny_standAt ?_)
  unfold methodCall
  have hf : methodCallForm (args.length + 0) (backTo pos (starEach args fx.env)) [] = true := by
    unfold methodCallForm
    rw [star_all ha]
    simp; omega
  rw [hf]
  unfold calleeOf
  simp only [if_true]
  refine wpAny_bind (wpAny_holding (hg W₁ s₁ u _ _ _ R₁ r₁ ?_))
  unfold methodCallPos
  simp only [Bool.not_true, Bool.false_or, hp, if_true]
  refine wpAny_bind (wpAny_pure ?_)
  cases args with
  | nil =>
    refine callWith_method0 ?_
    have h₂ := h₁ W₁ s₁ pos R₁
    have h₃ : wpAny fx.M fx.A (spliced (backTo pos (starEach [] fx.env))) (fun us s' => us = [] ∧ PVs fx W₁ (fun vs σ₂ => CallT fx X (.builtin id) (ov :: vs) σ₂ Q) us s') (PX fx W₁ X) s₁ := by
      have e0 : spliced (backTo pos (starEach [] fx.env)) = pure [] := rfl
      rw [e0] at h₂ ⊢
      exact fun Γ p hΓ => ⟨rfl, h₂ Γ p hΓ⟩
    have e0 : spliced (backTo pos (starEach [] fx.env)) = pure [] := rfl
    rw [e0] at h₃
    intro Γ p hΓ
    obtain ⟨_, W₂, σ₂, vs, le₂, R₂, r₂, h₄⟩ := h₃ Γ p hΓ
    cases r₂
    exact wpAny_mono (h₄ W₂ s₁ [u] R₂ (.cons (r₁.mono le₂) .nil)) (fun _ _ x => x.mono (le₁.trans le₂) fun _ _ y => y) (fun _ _ x => x.mono (le₁.trans le₂) fun _ _ y => y) Γ p hΓ
  | cons e rest =>
    rw [List.all_cons, Bool.and_eq_true] at ha
    refine callWith_method1 (wpAny_mono (h₁ W₁ s₁ pos R₁) ?_ fun _ _ x => x.mono le₁ fun _ _ y => y) (star_cons ha.1 _ _) (star_any ha.2 _ _)
    refine fun us s₂ zz => zz.elim fun W₂ σ₂ vs le₂ R₂ r₂ h₂ => ?_
    exact wpAny_mono (h₂ W₂ s₂ (u :: us) R₂ (.cons (r₁.mono le₂) r₂)) (fun _ _ x => x.mono (le₁.trans le₂) fun _ _ y => y) fun _ _ x => x.mono (le₁.trans le₂) fun _ _ y => y

/-! slices -/
theorem VRs.reverse {W : Wd} {vs : List V} {xs : List Value} (h : VRs W vs xs) : VRs W vs.reverse xs.reverse := by
  induction vs generalizing xs with
  | nil => cases h; exact .nil
  | cons v vs ih =>
    cases h with
    | cons a r =>
      rw [List.reverse_cons, List.reverse_cons]
      exact (ih r).append (.cons a .nil)
def RevV (o : V) (σ : St) (Q : V → St → Prop) : Prop := ∃ i vs, o = .ref i ∧ (σ.hp[i]? = some (.list vs) ∧ vs.length ≤ sizeLine) ∧ Q (.ref σ.hp.length) ⟨σ.loc, σ.hp ++ [.list vs.reverse]⟩
abbrev negOne (k : Nat) (p q : Pos) : Expr := .UnaryOp .USub (.Constant (.int 1) k p) q
theorem evRev {x : Str} {q pos sp p1 p2 : Pos} {k : Nat} {Q : V → St → Prop} (h : EvE fx X (.Name x q) σ (fun o σ₁ => RevV o σ₁ Q)) : EvE fx X (.Subscript (.Name x q) (.Slice none none (some (negOne k p1 p2)) sp) pos) σ Q := by
  intro W s R
  refine Subscript_ (wpAny_mono (h W s R) ?_ fun _ _ x => x)
  rintro u₁ s₁ ⟨W₁, σ₁, o, le₁, R₁, r₁, i, vs, rfl, ⟨h3, h4⟩, h5⟩
  rw [arm_eval_Slice]
  refine wpAny_bind (wpAny_pure (wpAny_bind (wpAny_holding (wpAny_pure (wpAny_bind (wpAny_holding ?_))))))
  refine wpAny_mono (evUn (evConstInt (un_negT (Q := fun v σ' => v = .int (-1) ∧ σ' = σ₁) (by exact ⟨rfl, rfl⟩))) W₁ s₁ R₁) ?_ fun _ _ x => x.mono le₁ fun _ _ y => y
  rintro uk s₃ ⟨W₃, σ₃, v, le₃, R₃, r₃, rfl, rfl⟩
  cases r₃
  obtain ⟨l, xs, n, rfl, _, k1, k2⟩ := R₃.list_at h3 (r₁.mono le₃)
  refine R₃.elim fun er g m news G F N C => ?_
  refine wpAny_newObj_type ?_ (by size_fits)
  refine slice_list3 F N (listObj_isList k1) .none .none (.int _ _) (by simp) (fun h' F' N' => ?_) (hsz := by rw [List.size_toArray, ← k2.length]; exact h4)
  rw [krv_pick] at N'
  obtain ⟨W', le', hD, R'⟩ := Rep.addN er G C (o := .list vs.reverse) F' N' (fun p hp => Nat.ne_of_lt (Nat.lt_succ_of_lt (Heap.lt_size (N p hp).1))) fun W' le => .list 0 (k2.mono le).reverse
  exact ⟨W', _, .ref _, (le₁.trans le₃).trans le', R', .ref hD, h5⟩

/-! all, any -/
theorem vrs_bools {bs : List Bool} {xs : List Value} (h : VRs W (bs.map .bool) xs) : xs = bs.map .bool := by
  induction bs generalizing xs with
  | nil => cases h; rfl
  | cons b bs ih =>
    cases h with
    | cons a r => cases a; rw [ih r]; rfl
theorem all_any (all : FxAll fx) (hq : fx.qt = true) {i : Nat} {bs : List Bool} {Q : V → St → Prop} (ho : σ.hp[i]? = some (.list (bs.map .bool))) :
    (Q (.bool (bs.all id)) σ → CallT fx X (.builtin "all") [.ref i] σ Q) ∧ (Q (.bool (bs.any id)) σ → CallT fx X (.builtin "any") [.ref i] σ Q) := by
  have hh : (fx.A.in1).handled = none := all.ok.handled hq
  have key : ∀ W s us, Rep fx σ W s → VRs W [.ref i] us → ∃ a, us = [.ref a] ∧ ∀ (Q' : Bool → Value → Prop), wpAny fx.M fx.A.in1 (pyIter (.ref a)) (fun it s₂ => ∃ I fp wr n P St tr, it = .ref I ∧ Walks fx.pg.prog fx.pg.w fx.A.in1 I fp wr n P St ∧ St 0 s₂.heap ∧ TruthOf fx.pg.prog fx.pg.w fx.A.in1 P tr ∧
      ((List.range n).all tr = bs.all id ∧ (List.range n).any tr = bs.any id) ∧ ∀ h' tk, (∀ b o, b ∉ wr → s₂.heap.get? b = some o → h'.get? b = some o) → Rep fx σ W { s₂ with heap := h', toks := tk }) (PX fx W X) s := by
    intro W s us R r
    cases r with
    | cons r₁ r =>
      cases r
      obtain ⟨a, xs, n, rfl, _, k1, k2⟩ := R.list_at ho r₁
      have ex := vrs_bools k2
      subst ex
      refine ⟨a, rfl, fun _ => wpAny_pyIter_list (listObj_isList k1) ?_⟩
      have hne : a ≠ s.heap.objs.size := Nat.ne_of_lt (Heap.lt_size k1)
      have len : (bs.map Value.bool).toArray.size = bs.length := by simp
      refine ⟨_, _, _, _, _, _, fun j => bs.getD j false, rfl, Walks.list hh s.heap.objs.size a hne (bs.map Value.bool).toArray, ⟨⟨_, Heap.get?_push_size _ rfl, rfl, rfl⟩, (listObj_isList k1).push _⟩, ?_, ?_, ?_⟩
      · intro j v s' Q' E' hP hQ
        have : v = .bool (bs.getD j false) := by
          rw [List.getElem?_toArray, List.getElem?_map] at hP
          cases e : bs[j]? with
          | none => rw [e] at hP; cases hP
          | some b => rw [e] at hP; cases hP; simp [List.getD, e]
        subst this
        exact wpAny_truthy_bool hQ
      · rw [len]
        constructor
        · rw [Bool.eq_iff_iff, List.all_eq_true, List.all_eq_true]
          constructor
          · intro h b hb
            obtain ⟨j, hj, rfl⟩ := List.getElem_of_mem hb
            have := h j (List.mem_range.mpr hj)
            simpa [List.getD, hj] using this
          · intro h j hj
            have hj' := List.mem_range.mp hj
            have := h bs[j] (List.getElem_mem hj')
            simpa [List.getD, hj'] using this
        · rw [Bool.eq_iff_iff, List.any_eq_true, List.any_eq_true]
          constructor
          · rintro ⟨j, hj, h⟩
            have hj' := List.mem_range.mp hj
            exact ⟨bs[j], List.getElem_mem hj', by simpa [List.getD, hj'] using h⟩
          · rintro ⟨b, hb, h⟩
            obtain ⟨j, hj, rfl⟩ := List.getElem_of_mem hb
            exact ⟨j, List.mem_range.mpr hj, by simpa [List.getD, hj] using h⟩
      · intro h' tk hk
        exact R.keep tk fun b o e => hk b o (by simp; exact Nat.ne_of_lt (Heap.lt_size e)) (Heap.get?_push_of_some _ e)
  constructor
  · intro h W s us R r
    obtain ⟨a, rfl, z⟩ := key W s us R r
    refine call_all_walk (wpAny_mono (z fun _ _ => True) ?_ fun _ _ x => x)
    rintro it s₂ ⟨I, fp, wr, n, P, St, tr, e, w1, w2, w3, ⟨w4, _⟩, w5⟩
    exact ⟨I, fp, wr, n, P, St, tr, e, w1, w2, w3, fun h' tk hk => by rw [w4]; exact .here (w5 h' tk hk) (.bool _) h⟩
  · intro h W s us R r
    obtain ⟨a, rfl, z⟩ := key W s us R r
    refine call_any_walk (wpAny_mono (z fun _ _ => True) ?_ fun _ _ x => x)
    rintro it s₂ ⟨I, fp, wr, n, P, St, tr, e, w1, w2, w3, ⟨_, w4⟩, w5⟩
    exact ⟨I, fp, wr, n, P, St, tr, e, w1, w2, w3, fun h' tk hk => by rw [w4]; exact .here (w5 h' tk hk) (.bool _) h⟩

/-! exceptions -/
abbrev veMro : List Value := [.type "ValueError", .type "Exception", .type "BaseException", .type "object"]
theorem evRaise (all : FxAll fx) (hq : fx.qt = true) {x : Str} {np cpos pos : Pos} {C : Addr} {e₀ : Expr} {rest : List Expr} {Q : Fl → St → Prop} (hg : fx.pg.gl x = some (.ref C)) (hgn : nsIn fx.pg.K mainGlobals x = some (some (.ref C))) (hcl : excIn fx.pg.K C veMro "ValueError.__new__" = true)
    (hk : fx.env.kindOf x = some .globalImplicit) (hd : (x == ("__debug__" : Str)) = false) (hs : (e₀ :: rest).all noStar = true)
    (h : EvEs fx X (e₀ :: rest) σ (fun vs σ₁ => vs.length ≤ sizeLine ∧ X (.ref C) σ₁)) : EvS fx X (.Raise (some (.Call (.Name x np) (e₀ :: rest) [] cpos)) none pos) σ Q := by
  intro W s R
  have O := own_of_in all.part (topRead_of all.top) hgn hcl
  obtain ⟨tl, N, nm, q, bs, hdct, sn, sub, ab, col, dd, k0, k1, k2, k3, k5, mN, hC, hN, hni, T⟩ := O.obj
  have hpl : (backTo cpos (starEach (e₀ :: rest) fx.env)).any (·.1) = false := star_any hs _ _
  rw [List.all_cons, Bool.and_eq_true] at hs
  have he := star_cons hs.1 rest fx.env
  refine wpAny_Raise_call_subU (C := C) (nm := nm) (q := q) (N := N) (bs := bs) (bm := tl) (hdct := hdct) (sn := sn) (sub := sub) (ab := ab) (col := col) (dd := dd) (k0 := k0) (k1 := k1) (k2 := k2) (k3 := k3) (k5 := k5)
    F.excBase_ValueError (by decide) F.excBase_ValueError (mN := mN) (T.hasType F.excBase_ValueError.hasBase) (all.ok.handled hq) hpl hni (all.glbAt x (.ref C) np hg hk s _ _ (all.stays R) ⟨rfl, ?_⟩ hd)
  have h' := h W s cpos R
  rw [he] at h' ⊢
  refine Calls.evalArgs_plain (wpAny_mono h' (fun us s₂ ⟨W₂, σ₂, vs, le₂, R₂, r₂, h₂, h₃⟩ => ?_) fun _ _ y => y)
  have st₂ := all.stays R₂
  exact ⟨rfl, r₂.length ▸ h₂, st₂ _ _ hC, hN.keeps st₂, T.keeps st₂, fun h'' e hx => ⟨e, .ref C, .made, W₂, σ₂, rfl, le₂, XRep.raise all R₂ hx, h₃⟩⟩

/-- the handlers of a try -/
def EvH (fx : Fx) (X : XP) (hs : List ExceptHandler) (cls : Value) (σ : St) (Q : Fl → St → Prop) : Prop :=
  ∀ e W s, XRep fx σ W e cls .fly s → wpAny fx.M fx.A (handleBy (.ref e) fx.env hs) (PF fx W Q) (PX fx W X) s
theorem evTry (all : FxAll fx) (hL : fx.env.locals = fx.L) {b : List Stmt} {h₀ : ExceptHandler} {hs : List ExceptHandler} {pos : Pos} {Xh : XP} {Q : Fl → St → Prop} (h : EvSs fx Xh b σ Q) (hh : ∀ cls σ', Xh cls σ' → EvH fx X (h₀ :: hs) cls σ' Q) : EvS fx X (.Try b (h₀ :: hs) [] [] pos) σ Q := by
  intro W s R
  refine wpAny_Try_except (wpAny_mono (h W s R) ?_ ?_)
  · refine fun f s₁ zz => zz.elim fun W₁ σ₁ fl le₁ R₁ r₁ h₁ => ?_
    cases r₁ with
    | next => exact wpAny_execs_nil ⟨W₁, σ₁, .next, le₁, R₁, .next, h₁⟩
    | brk => exact ⟨W₁, σ₁, .brk, le₁, R₁, .brk, h₁⟩
    | cont => exact ⟨W₁, σ₁, .cont, le₁, R₁, .cont, h₁⟩
    | ret r => exact ⟨W₁, σ₁, .ret _, le₁, R₁, .ret r, h₁⟩
  · rintro u s₁ ⟨e, cls, k, W₁, σ₁, rfl, le₁, x, hX⟩
    have ef := all.envf hL
    have hh' := hh cls σ₁ hX e W₁
    rw [ef] at hh' ⊢
    exact x.note all.frs all.ffr fun h₂ x₂ => x₂.land all.ffr fun h₃ x₃ => wpAny_mono (hh' _ x₃) (fun _ _ y => y.mono le₁ fun _ _ z => z) fun _ _ y => y.mono le₁ fun _ _ z => z

theorem XRep.ty {e : Addr} {cls : Value} {k : Kd} {M : Model} (x : XRep fx σ W e cls k s) : Looks M s.heap (typeOf (.ref e)) cls := by
  obtain ⟨_, g, m, news, B, c, f⟩ := x
  obtain ⟨oe, vs, h1, h2, h3⟩ := f.there
  have z : Looks M s.heap (typeOf (.ref e)) oe.cls := (Looks.ld h1).andThen .now
  exact h2 ▸ z

/-- the frame, while it handles an exception -/
abbrev fxH (fx : Fx) (e : Addr) : Fx := { fx with A := fx.A.mark (some (.ref e)), qt := false }
theorem fxH_all (all : FxAll fx) (e : Addr) : FxAll (fxH fx e) where
  ok := ⟨all.ok.kind, fun q => by cases q⟩
  locs := all.locs
  cex := all.cex
  cinj := all.cinj
  cdef := all.cdef
  scr := all.scr
  egl := all.egl
  ebu := all.ebu
  top := all.top
  part := all.part
  below := all.below
  dicts := all.dicts
  frs := all.frs
  ffr := all.ffr
  fkd := all.fkd
  depth := all.depth
  room := all.room
  mfn := all.mfn
  envf := all.envf

theorem Rep.toH {e : Addr} (R : Rep fx σ W s) : Rep (fxH fx e) σ W s := Rep.cast (fx := fx) (A := fx.A) (q := fx.qt) R
theorem Rep.ofH {e : Addr} (R : Rep (fxH fx e) σ W s) : Rep fx σ W s := Rep.cast (fx := fx) (A' := fx.A) (q' := fx.qt) R

theorem evH_hit0 (all : FxAll fx) {y : Str} {p pos : Pos} {b₀ : Stmt} {suite : List Stmt} {rest : List ExceptHandler} {cls c : Value} {Q : Fl → St → Prop} (hg : fx.pg.gl y = some c) (hk : fx.env.kindOf y = some .globalImplicit) (hd : (y == ("__debug__" : Str)) = false) (hx : exmOne fx.pg.K cls c = some true)
    (h : ∀ e, EvSs (fxH fx e) X0 (b₀ :: suite) σ Q) : EvH fx X (.ExceptHandler (some (.Name y p)) none (b₀ :: suite) pos :: rest) cls σ Q := by
  intro e W s x
  refine wpAny_handleBy_cons (codeAny_handlers_test (all.glbAt y c p hg hk s _ _ x.stays ((exm_one (all.part.keeps x.stays) x.ty hx).here ?_) hd)) (by intro q; cases q)
  refine codeAny_handlers_suite (x.again all.ffr fun h₁ x₁ => ?_)
  refine wpAny_mono (h e W _ (x₁.catch all).1.toH) ?_ fun _ _ y => y.never.elim
  refine fun f s₂ zz => zz.elim fun W₂ σ₂ fl le₂ R₂ r₂ h₂ => ?_
  exact ⟨W₂, σ₂, fl, le₂, R₂.ofH, r₂, h₂⟩

end
end Mine

set_option autoImplicit false
namespace Mine
open PySem PySem.W PySem.Calls PySem.Spec PyProof.Rows

/-! the rules by which a law is walked -/
structure Cx where
  pg : Pg
  scope : Scope
  ns : List Int
  lev : Nat
  qt : Bool

def okN (x : Str) : Bool := !(x == ("__debug__" : Str)) && !(x == ("__classdict__" : Str))
def relab (sc : Scope) : Scope := { sc with names := sc.names.map fun (n, k) => if k == .free then (n, .cell) else (n, k) }
def compOkB (sc csc : Scope) : Bool := csc.kind == .function && csc.names.all fun y => y.2 != .cell && (y.2 != .local || csc.names.lookup y.1 == some .local) && (y.2 != .free || (csc.names.lookup y.1 == some .free && sc.names.lookup y.1 == some .cell))
def varOk (sc : Scope) (x : Str) : Bool := sc.names.lookup x == some .local || sc.names.lookup x == some .cell
def tgtOk (f : Str → Bool) : Expr → Bool
  | .Name x _ => f x
  | .Tuple es _ _ => es.all fun e => match e with | .Name x _ => f x | _ => false
  | _ => false
def plainT : Expr → Bool
  | .UnaryOp .. | .BoolOp .. | .IfExp .. | .Compare .. => false
  | _ => true
def notSet : Expr → Bool
  | .Set .. => false
  | _ => true


def nmsOk (sc : Scope) : Bool := sc.names.all fun y => okN y.1

structure FxAt (c : Cx) (fx : Fx) : Prop where
  all : FxAll fx
  pg : fx.pg = c.pg
  sc : fx.env.scope = c.scope
  ns : fx.ns = c.ns
  lev : c.lev ≤ fx.lev
  qt : c.qt = true → fx.qt = true
  nk : nmsOk c.scope = true

theorem FxAt.kind {c : Cx} {fx : Fx} (a : FxAt c fx) (x : Str) : fx.env.kindOf x = c.scope.names.lookup x := by
  show fx.env.scope.names.lookup x = _
  rw [a.sc]
theorem FxAt.push {c : Cx} {fx : Fx} (F : FxAt c fx) {ps : List (Addr × Obj)} (a : FxAll (fx.pushL ps)) : FxAt c (fx.pushL ps) := ⟨a, F.pg, F.sc, F.ns, F.lev, F.qt, F.nk⟩
theorem FxAt.units {c : Cx} {fx : Fx} (F : FxAt c fx) : fx.A.units + 64 < cLine := by have := F.all.units; omega
theorem okN_of {x : Str} (h : okN x = true) : (x == ("__debug__" : Str)) = false ∧ (x == ("__classdict__" : Str)) = false := by
  unfold okN at h
  rw [Bool.and_eq_true, Bool.not_eq_true', Bool.not_eq_true'] at h
  exact h

theorem tgt_ok {f : Str → Bool} {t : Expr} {v : V} {bs : List (Str × V)} (h : tgtOk f t = true) (e : tgtV t v = some bs) : ∀ b ∈ bs, f b.1 = true := by
  unfold tgtV at e
  split at e
  · cases e
    intro b hb
    rw [List.mem_singleton.mp hb]
    exact h
  · rename_i es n p
    split at e
    · rename_i vs
      split at e
      · rename_i hlen
        have h' : (es.all fun e => match e with | .Name x _ => f x | _ => false) = true := h
        clear h
        revert vs bs
        induction es with
        | nil =>
          intro bs vs hlen e
          simp at e
          subst e
          exact fun b hb => by cases hb
        | cons e0 es ih =>
          intro bs vs hlen e
          cases vs with
          | nil => simp at hlen
          | cons v vs =>
            rw [List.zip_cons_cons, List.mapM_cons] at e
            rw [List.all_cons, Bool.and_eq_true] at h'
            cases e0 with
            | Name x p =>
              cases hr : ((es.zip vs).mapM nmV) with
              | none => rw [hr] at e; simp [nmV] at e
              | some bs' =>
                rw [hr] at e
                simp [nmV] at e
                subst e
                intro b hb
                rcases List.mem_cons.mp hb with rfl | hb
                · exact h'.1
                · exact ih h'.2 vs (by simpa using hlen) hr b hb
            | _ => simp [nmV] at e
      · cases e
    · cases e
  · cases e

theorem compOk_of {env : Env} {sc csc : Scope} (hs : env.scope = sc) (h : compOkB sc csc = true) : CompOk env csc := by
  unfold compOkB at h
  rw [Bool.and_eq_true, List.all_eq_true] at h
  obtain ⟨h1, h2⟩ := h
  have h3 : ∀ y ∈ csc.names, y.2 ≠ .cell ∧ (y.2 = .local → csc.names.lookup y.1 = some .local) ∧ (y.2 = .free → csc.names.lookup y.1 = some .free ∧ sc.names.lookup y.1 = some .cell) := fun y hy => by
    have := h2 y hy
    simp only [Bool.and_eq_true, Bool.or_eq_true, bne_iff_ne, beq_iff_eq, ne_eq] at this
    exact ⟨this.1.1, fun q => this.1.2.resolve_left fun z => z q, fun q => this.2.resolve_left fun z => z q⟩
  exact ⟨by simpa using h1, fun y hy => (h3 y hy).1, fun y hy => (h3 y hy).2.1, fun y hy q => ((h3 y hy).2.2 q).1, fun n hn => by
    show env.scope.names.lookup n = some .cell
    rw [hs]
    exact ((h3 _ (lookup_mem hn)).2.2 rfl).2⟩

theorem relabel_eq {env : Env} {csc : Scope} (co : CompOk env csc) (hk : env.scope.kind = .function) : relabel csc env = relab csc := by
  unfold relabel relab
  congr 1
  refine List.map_congr_left fun y hy => ?_
  obtain ⟨n, k⟩ := y
  dsimp only
  by_cases q : k = .free
  · subst q
    have := co.free n (co.frees _ hy rfl)
    simp [hk, this]
  · have : (k == NameKind.free) = false := by simpa using q
    simp [this]

theorem folded_of {iter : Expr} (h : notSet iter = true) (env : Env) (x : Value) : foldedSetIterable iter env x = pure x := by
  cases iter <;> first | rfl | cases h


theorem nms_at {sc : Scope} {x : Str} {k : NameKind} (h : nmsOk sc = true) (e : sc.names.lookup x = some k) : okN x = true := List.all_eq_true.mp h _ (lookup_mem e)
theorem FxAt.name {c : Cx} {fx : Fx} (F : FxAt c fx) {x : Str} {k : NameKind} (e : c.scope.names.lookup x = some k) : (x == ("__debug__" : Str)) = false ∧ (x == ("__classdict__" : Str)) = false := okN_of (nms_at F.nk e)
theorem FxAt.okName {c : Cx} {fx : Fx} (F : FxAt c fx) {σ : St} {W : Wd} {s : Shared} (R : Rep fx σ W s) {x : Str} {v : V} (hv : σ.loc x = some v) : (x == ("__debug__" : Str)) = false ∧ (x == ("__classdict__" : Str)) = false := by
  refine R.elim fun _ g m news G Fr N C => ?_
  obtain ⟨u, _, n⟩ := C.loc x v hv
  cases n with
  | loc a _ _ => exact F.name (by rw [← F.kind]; exact a)
  | comp a _ _ => exact F.name (by rw [← F.kind]; exact a)
  | cell a _ _ _ => rcases a with a | a <;> exact F.name (by rw [← F.kind]; exact a)
section
variable {fx : Fx} {X : XP} {σ : St}
theorem CmpT.mono {op : CmpOp} {a b : V} {Q Q' : V → St → Prop} (h : CmpT fx X op a b σ Q) (hq : ∀ v σ', Q v σ' → Q' v σ') : CmpT fx X op a b σ Q' :=
  fun W s u₁ u₂ R r₁ r₂ => wpAny_mono (h W s u₁ u₂ R r₁ r₂) (fun _ _ x => x.mono (.refl _) hq) fun _ _ x => x
theorem TruT.mono {a : V} {Q Q' : Bool → St → Prop} (h : TruT fx X a σ Q) (hq : ∀ v σ', Q v σ' → Q' v σ') : TruT fx X a σ Q' :=
  fun W s u R r => wpAny_mono (h W s u R r) (fun _ _ x => x.mono (.refl _) hq) fun _ _ x => x
end
theorem plainT_of {e : Expr} (h : plainT e = true) (env : Env) (whole : Sem Value) : isTrue e env whole = (do let v ← whole; standAt e.pos; holding [v] (truthy v)) := by
  cases e <;> first | rfl | cases h


theorem isVar_of {c : Cx} {fx : Fx} (F : FxAt c fx) (hL : fx.env.locals = fx.L) {x : Str} (h : varOk c.scope x = true) : isVar fx x := by
  refine ⟨hL, ?_⟩
  rw [F.kind]
  simpa [varOk] using h

abbrev Lo := Str → Option V
abbrev KV := V → Lo → List O → Prop
abbrev KB := Bool → Lo → List O → Prop
abbrev KF := Fl → Lo → List O → Prop
abbrev KI := List V → (St → Prop) → Lo → List O → Prop
@[irreducible] def E (c : Cx) (X : XP) (e : Expr) (l : Lo) (hp : List O) (K : KV) : Prop := ∀ fx, FxAt c fx → EvE fx X e ⟨l, hp⟩ fun v σ => K v σ.loc σ.hp
@[irreducible] def Es (c : Cx) (X : XP) (es : List Expr) (l : Lo) (hp : List O) (K : List V → Lo → List O → Prop) : Prop := ∀ fx, FxAt c fx → EvEs fx X es ⟨l, hp⟩ fun v σ => K v σ.loc σ.hp
@[irreducible] def EL (c : Cx) (X : XP) (op : BoolOp) (es : List Expr) (l : Lo) (hp : List O) (K : KV) : Prop := ∀ fx, FxAt c fx → ∀ pos, EvE fx X (.BoolOp op es pos) ⟨l, hp⟩ fun v σ => K v σ.loc σ.hp
@[irreducible] def B (c : Cx) (X : XP) (e : Expr) (l : Lo) (hp : List O) (K : KB) : Prop := ∀ fx, FxAt c fx → EvB fx X e ⟨l, hp⟩ fun v σ => K v σ.loc σ.hp
@[irreducible] def BL (c : Cx) (X : XP) (op : BoolOp) (es : List Expr) (l : Lo) (hp : List O) (K : KB) : Prop := ∀ fx, FxAt c fx → ∀ pos, EvB fx X (.BoolOp op es pos) ⟨l, hp⟩ fun v σ => K v σ.loc σ.hp
@[irreducible] def I (c : Cx) (X : XP) (e : Expr) (l : Lo) (hp : List O) (P : KI) : Prop := ∀ fx, FxAt c fx → IterT fx X e ⟨l, hp⟩ fun its need σ => P its need σ.loc σ.hp
@[irreducible] def S (c : Cx) (X : XP) (st : Stmt) (l : Lo) (hp : List O) (K : KF) : Prop := ∀ fx, FxAt c fx → fx.env.locals = fx.L → EvS fx X st ⟨l, hp⟩ fun v σ => K v σ.loc σ.hp
@[irreducible] def Ss (c : Cx) (X : XP) (ss : List Stmt) (l : Lo) (hp : List O) (K : KF) : Prop := ∀ fx, FxAt c fx → fx.env.locals = fx.L → EvSs fx X ss ⟨l, hp⟩ fun v σ => K v σ.loc σ.hp
@[irreducible] def Bin (c : Cx) (X : XP) (op : Operator) (a b : V) (l : Lo) (hp : List O) (K : KV) : Prop := ∀ fx, FxAt c fx → BinT fx X op a b ⟨l, hp⟩ fun v σ => K v σ.loc σ.hp
@[irreducible] def Un (c : Cx) (X : XP) (op : UnaryOp) (a : V) (l : Lo) (hp : List O) (K : KV) : Prop := ∀ fx, FxAt c fx → UnT fx X op a ⟨l, hp⟩ fun v σ => K v σ.loc σ.hp
@[irreducible] def Cmp (c : Cx) (X : XP) (op : CmpOp) (a b : V) (l : Lo) (hp : List O) (K : KV) : Prop := ∀ fx, FxAt c fx → CmpT fx X op a b ⟨l, hp⟩ fun v σ => K v σ.loc σ.hp
@[irreducible] def Tru (c : Cx) (X : XP) (a : V) (l : Lo) (hp : List O) (K : KB) : Prop := ∀ fx, FxAt c fx → TruT fx X a ⟨l, hp⟩ fun v σ => K v σ.loc σ.hp
@[irreducible] def CB (c : Cx) (X : XP) (id : String) (vs : List V) (l : Lo) (hp : List O) (K : KV) : Prop := ∀ fx, FxAt c fx → CallT fx X (.builtin id) vs ⟨l, hp⟩ fun v σ => K v σ.loc σ.hp
@[irreducible] def CT (c : Cx) (X : XP) (T : String) (vs : List V) (l : Lo) (hp : List O) (K : KV) : Prop := ∀ fx, FxAt c fx → CallT fx X (.type T) vs ⟨l, hp⟩ fun v σ => K v σ.loc σ.hp
@[irreducible] def Sub (c : Cx) (X : XP) (o i : V) (l : Lo) (hp : List O) (K : KV) : Prop := ∀ fx, FxAt c fx → ∀ value slice, notSlice slice = true → SubT fx X value slice o i ⟨l, hp⟩ fun v σ => K v σ.loc σ.hp
@[irreducible] def Set' (c : Cx) (X : XP) (o i v : V) (l : Lo) (hp : List O) (K : Lo → List O → Prop) : Prop := ∀ fx, FxAt c fx → SetT fx X o i v ⟨l, hp⟩ fun σ => K σ.loc σ.hp
@[irreducible] def Srv (c : Cx) (v : V) (l : Lo) (hp : List O) (P : KI) : Prop := ∀ fx, FxAt c fx → SrvT fx v ⟨l, hp⟩ fun its need σ => P its need σ.loc σ.hp
@[irreducible] def Rvs (o : V) (l : Lo) (hp : List O) (K : KV) : Prop := RevV o ⟨l, hp⟩ fun v σ => K v σ.loc σ.hp
@[irreducible] def Sz (vs : List V) (P : Prop) : Prop := vs.length ≤ sizeLine ∧ P
@[irreducible] def If (b : Bool) (P Q : Prop) : Prop := if b then P else Q
@[irreducible] def Lst (ov : V) (hp : List O) (P : Nat → Prop) : Prop := ∃ i vs, ov = .ref i ∧ hp[i]? = some (.list vs) ∧ P i
@[irreducible] def Rng (vs : List V) (P : List V → Prop) : Prop := RngP vs P
@[irreducible] def Hd (c : Cx) (X : XP) (hs : List ExceptHandler) (cls : Value) (l : Lo) (hp : List O) (K : KF) : Prop := ∀ fx, FxAt c fx → fx.env.locals = fx.L → EvH fx X hs cls ⟨l, hp⟩ fun v σ => K v σ.loc σ.hp
/-- what is asked at the side of a step -/
structure Side (P : Prop) : Prop where
  h : P
structure CxIs (c : Cx) (pg : Pg) (sc : Scope) (ns : List Int) (lev : Nat) (qt : Bool) : Prop where
  eq : c = ⟨pg, sc, ns, lev, qt⟩
section
variable {c : Cx} {X : XP} {l : Lo} {hp : List O} {K : KV} {p q r : Pos} {pg : Pg} {sc : Scope} {ns : List Int} {lev : Nat} {qt : Bool}

theorem e_int {i : Int} {k : Nat} (h : K (.int i) l hp) : E c X (.Constant (.int i) k p) l hp K := by unfold E; exact fun _ _ => evConstInt h
theorem e_str {i : Str} {k : Nat} (h : K (.str i) l hp) : E c X (.Constant (.str i) k p) l hp K := by unfold E; exact fun _ _ => evConstStr h
theorem e_bool {i : Bool} {k : Nat} (h : K (.bool i) l hp) : E c X (.Constant (.bool i) k p) l hp K := by unfold E; exact fun _ _ => evConstBool h
theorem e_none {k : Nat} (h : K .none l hp) : E c X (.Constant .none k p) l hp K := by unfold E; exact fun _ _ => evConstNone h
theorem e_name {x : Str} {v : V} (e : l x = some v) (h : K v l hp) : E c X (.Name x p) l hp K := by
  unfold E
  exact fun fx F W s R => evName F.all.ok e h (F.okName R e).1 (F.okName R e).2 W s R
theorem e_glob {x : Str} {v : Value} (hc : CxIs c pg sc ns lev qt) (k : sc.names.lookup x = some .globalImplicit) (g : pg.gl x = some v) (h : K (gV v) l hp) : E c X (.Name x p) l hp K := by
  obtain ⟨rfl⟩ := hc
  unfold E
  exact fun fx F => evGlob F.all (by rw [F.pg]; exact g) (by rw [F.kind]; exact k) (F.name k).1 h
theorem e_bin {a b : Expr} {op : Operator} (h : E c X a l hp fun v l hp => E c X b l hp fun w l hp => Bin c X op v w l hp K) : E c X (.BinOp a op b p) l hp K := by
  unfold E Bin at *
  exact fun fx F => evBin ((h fx F).mono fun v σ h₁ => (h₁ fx F).mono fun w σ' h₂ => h₂ fx F)
theorem e_un {a : Expr} {op : UnaryOp} (h : E c X a l hp fun v l hp => Un c X op v l hp K) : E c X (.UnaryOp op a p) l hp K := by
  unfold E Un at *
  exact fun fx F => evUn ((h fx F).mono fun v σ h₁ => h₁ fx F)
theorem e_boolop {op : BoolOp} {vs : List Expr} (h : EL c X op vs l hp K) : E c X (.BoolOp op vs p) l hp K := by
  unfold E EL at *
  exact fun fx F => h fx F p
theorem el_one {op : BoolOp} {e : Expr} (h : E c X e l hp K) : EL c X op [e] l hp K := by
  unfold E EL at *
  exact fun fx F _ => evBoolOne (h fx F)
theorem el_and {e e' : Expr} {r : List Expr} (h : E c X e l hp fun v l hp => Tru c X v l hp fun b l hp => If b (EL c X .And (e' :: r) l hp K) (K v l hp)) : EL c X .And (e :: e' :: r) l hp K := by
  unfold E EL Tru If at *
  refine fun fx F pos => evAnd ((h fx F).mono fun v σ h₁ => (h₁ fx F).mono fun b σ' h₂ => ?_)
  cases b with
  | true => exact h₂ fx F pos
  | false => exact h₂
theorem e_cmp {a b : Expr} {op : CmpOp} (hm : behindInMarks op b = false) (h : E c X a l hp fun v l hp => E c X b l hp fun w l hp => Cmp c X op v w l hp K) : E c X (.Compare a [op] [b] p) l hp K := by
  unfold E Cmp at *
  exact fun fx F => evCmp1 ((h fx F).mono fun v σ h₁ => (h₁ fx F).mono fun w σ' h₂ => h₂ fx F) hm
theorem e_callB {f : Str} {a : Expr} {args : List Expr} {id : String} (hc : CxIs c pg sc ns lev qt) (g : pg.gl f = some (.builtin id)) (k : sc.names.lookup f = some .globalImplicit) (st : (a :: args).all noStar = true) (h : Es c X (a :: args) l hp fun vs l hp => CB c X id vs l hp K) : E c X (.Call (.Name f q) (a :: args) [] p) l hp K := by
  obtain ⟨rfl⟩ := hc
  unfold E
  unfold Es CB at h
  exact fun fx F => evCallB F.all (by rw [F.pg]; exact g) (by rw [F.kind]; exact k) (F.name k).1 st ((h fx F).mono fun vs σ h₁ => h₁ fx F)
theorem e_callT {f : Str} {a : Expr} {args : List Expr} {T : String} (hc : CxIs c pg sc ns lev qt) (g : pg.gl f = some (.type T)) (k : sc.names.lookup f = some .globalImplicit) (st : (a :: args).all noStar = true) (h : Es c X (a :: args) l hp fun vs l hp => CT c X T vs l hp K) : E c X (.Call (.Name f q) (a :: args) [] p) l hp K := by
  obtain ⟨rfl⟩ := hc
  unfold E
  unfold Es CT at h
  exact fun fx F => evCallTy F.all (by rw [F.pg]; exact g) (by rw [F.kind]; exact k) (F.name k).1 st ((h fx F).mono fun vs σ h₁ => h₁ fx F)
theorem e_callF {f : Str} {a : Expr} {args : List Expr} {d : Addr} (hc : CxIs c pg sc ns lev qt) (g : pg.gl f = some (.ref d)) (i : fnIn pg.K d = true) (k : sc.names.lookup f = some .globalImplicit) (st : (a :: args).all noStar = true) (h : Es c X (a :: args) l hp fun vs l hp => CallOK pg lev qt ns d vs hp (fun d hp' => X d ⟨l, hp'⟩) (fun v hp' => K v l hp')) : E c X (.Call (.Name f q) (a :: args) [] p) l hp K := by
  obtain ⟨rfl⟩ := hc
  unfold E
  unfold Es at h
  exact fun fx F => evCallF F.all (by rw [F.pg]; exact g) (by rw [F.kind]; exact k) (F.name k).1 (by rw [F.pg]; exact i) st ((h fx F).mono fun vs σ h₁ => callT_of (qt := qt) F.all F.lev F.qt (by rw [F.pg, F.ns]; exact h₁))
theorem lst_ref {i : Nat} {vs : List V} {P : Nat → Prop} (e : hp[i]? = some (.list vs)) (h : P i) : Lst (.ref i) hp P := by
  unfold Lst
  exact ⟨i, vs, rfl, e, h⟩
theorem e_append {o a : Expr} (hb : baseOk o = true) (ha : [a].all noStar = true) (hl : (q.endLine == p.line) = true) (h : E c X o l hp fun ov l₁ hp₁ => Lst ov hp₁ fun i => Es c X [a] l₁ hp₁ fun vs l hp => CB c X "list.append" (.ref i :: vs) l hp K) : E c X (.Call (.Attribute o "append" q) [a] [] p) l hp K := by
  unfold E Lst Es CB at *
  refine fun fx F => evMeth hb ha (by simp) hl ((h fx F).mono fun ov σ h₁ => ?_)
  obtain ⟨i, vs, rfl, e, h₂⟩ := h₁
  exact ⟨_, getM_list e PySem.F.slot_list_append PySem.F.type_list_append, (h₂ fx F).mono fun vs σ h₃ => h₃ fx F⟩
theorem e_sub {a b : Expr} (nsl : notSlice b = true) (h : E c X a l hp fun v l hp => E c X b l hp fun w l hp => Sub c X v w l hp K) : E c X (.Subscript a b p) l hp K := by
  unfold E Sub at *
  exact fun fx F => evSub ((h fx F).mono fun v σ h₁ => (h₁ fx F).mono fun w σ' h₂ => h₂ fx F a b nsl)
theorem e_rev {x : Str} {p1 p2 : Pos} {k : Nat} (h : E c X (.Name x q) l hp fun o l hp => Rvs o l hp K) : E c X (.Subscript (.Name x q) (.Slice none none (some (.UnaryOp .USub (.Constant (.int 1) k p1) p2)) r) p) l hp K := by
  unfold E Rvs at *
  exact fun fx F => evRev (h fx F)
theorem rvs_ref {i : Nat} {vs : List V} (e : hp[i]? = some (.list vs)) (s : Side (vs.length ≤ sizeLine)) (h : K (.ref hp.length) l (hp ++ [.list vs.reverse])) : Rvs (.ref i) l hp K := by
  unfold Rvs
  exact ⟨i, vs, rfl, ⟨e, s.h⟩, h⟩
theorem sz {vs : List V} {P : Prop} (s : Nat.ble vs.length 1000 = true) (h : P) : Sz vs P := by
  unfold Sz
  exact ⟨Nat.le_trans (Nat.le_of_ble_eq_true s) (by rw [sizeLine_eq]; decide), h⟩
theorem e_tuple {es : List Expr} {k : Nat} (h : Es c X es l hp fun vs l hp => Sz vs (K (.tup vs) l hp)) : E c X (.Tuple es k p) l hp K := by
  unfold E
  unfold Es Sz at h
  exact fun fx F => evTuple (h fx F)
theorem e_list {es : List Expr} (h : Es c X es l hp fun vs l hp => Sz vs (K (.ref hp.length) l (hp ++ [.list vs]))) : E c X (.List es p) l hp K := by
  unfold E
  unfold Es Sz at h
  exact fun fx F => evList (h fx F)
theorem es_nil {K : List V → Lo → List O → Prop} (h : K [] l hp) : Es c X [] l hp K := by unfold Es; exact fun _ _ => evEs_nil h
theorem es_cons {K : List V → Lo → List O → Prop} {e : Expr} {r : List Expr} (s : noStar e = true) (h : E c X e l hp fun v l hp => Es c X r l hp fun vs l hp => K (v :: vs) l hp) : Es c X (e :: r) l hp K := by
  unfold E Es at *
  exact fun fx F => evEs_cons ((h fx F).mono fun v σ h₁ => h₁ fx F) (star_cons s _)

theorem bin_add {x y : Int} (h : K (.int (x + y)) l hp) : Bin c X .Add (.int x) (.int y) l hp K := by unfold Bin; exact fun _ _ => bin_addT h
theorem bin_sub {x y : Int} (h : K (.int (x - y)) l hp) : Bin c X .Sub (.int x) (.int y) l hp K := by unfold Bin; exact fun _ _ => bin_subT h
theorem bin_mul {x y : Int} (s : Side (x.natAbs < 2 ^ 64 ∨ y.natAbs < 2 ^ 64)) (h : K (.int (x * y)) l hp) : Bin c X .Mult (.int x) (.int y) l hp K := by unfold Bin; exact fun _ _ => bin_mulT s.h h
theorem bin_mod {x y : Int} (s : Side (0 < y)) (h : K (.int (x % y)) l hp) : Bin c X .Mod (.int x) (.int y) l hp K := by unfold Bin; exact fun _ _ => bin_modT s.h h
theorem bin_div {x y : Int} (s : Side (0 < y ∧ y < 2 ^ 30)) (h : K (.int (x / y)) l hp) : Bin c X .FloorDiv (.int x) (.int y) l hp K := by unfold Bin; exact fun _ _ => bin_divT s.h.1 s.h.2 h
theorem bin_pow {x y : Int} (s : Side (0 ≤ y ∧ y ≤ 1000000 ∧ x.natAbs < 2 ^ 64)) (h : K (.int (x ^ y.toNat)) l hp) : Bin c X .Pow (.int x) (.int y) l hp K := by unfold Bin; exact fun _ _ => bin_powT s.h h
theorem bin_pow18 (h : K (.int 1000000000000000000) l hp) : Bin c X .Pow (.int 10) (.int 18) l hp K := bin_pow ⟨by decide⟩ h
theorem bin_pow9 (h : K (.int 1000000000) l hp) : Bin c X .Pow (.int 10) (.int 9) l hp K := bin_pow ⟨by decide⟩ h
theorem bin_lists {i j : Nat} {vs ws : List V} (e : hp[i]? = some (.list vs)) (e' : hp[j]? = some (.list ws)) (s : Side (vs.length + ws.length ≤ sizeLine)) (h : K (.ref hp.length) l (hp ++ [.list (vs ++ ws)])) : Bin c X .Add (.ref i) (.ref j) l hp K := by unfold Bin; exact fun _ _ => bin_listsT e e' s.h h
theorem un_not {v : V} (h : Tru c X v l hp fun b l hp => K (.bool (!b)) l hp) : Un c X .Not v l hp K := by unfold Un; unfold Tru at h; exact fun fx F => un_notT (h fx F)
theorem un_neg {x : Int} (h : K (.int (-x)) l hp) : Un c X .USub (.int x) l hp K := by unfold Un; exact fun _ _ => un_negT h
theorem cmp_lt {x y : Int} (h : K (.bool (decide (x < y))) l hp) : Cmp c X .Lt (.int x) (.int y) l hp K := by unfold Cmp; exact fun _ _ => cmp_ltT h
theorem cmp_gt {x y : Int} (h : K (.bool (decide (y < x))) l hp) : Cmp c X .Gt (.int x) (.int y) l hp K := by unfold Cmp; exact fun _ _ => cmp_gtT h
theorem cmp_ge {x y : Int} (h : K (.bool (decide (y ≤ x))) l hp) : Cmp c X .GtE (.int x) (.int y) l hp K := by unfold Cmp; exact fun _ _ => cmp_geT h
theorem cmp_deq {x y : V} {dx dy : PyData} (h1 : Dat hp x dx) (h2 : Dat hp y dy) (h3 : PySem.SeqAt.shaped dx = true) (h4 : PySem.SeqAt.shaped dy = true) (h : K (.bool (PyData.eqv dx dy)) l hp) : Cmp c X .Eq x y l hp K := by unfold Cmp; exact fun fx F => cmp_eqT F.units h1 h2 h3 h4 h
theorem cmp_dne {x y : V} {dx dy : PyData} (h1 : Dat hp x dx) (h2 : Dat hp y dy) (h3 : PySem.SeqAt.shaped dx = true) (h4 : PySem.SeqAt.shaped dy = true) (h : K (.bool (!PyData.eqv dx dy)) l hp) : Cmp c X .NotEq x y l hp K := by unfold Cmp; exact fun fx F => cmp_neT F.units h1 h2 h3 h4 h
theorem eqv_int (x y : Int) : PyData.eqv (.int x) (.int y) = decide (x = y) := by simp [PyData.eqv]; rfl
theorem cmp_eq {x y : Int} (h : K (.bool (decide (x = y))) l hp) : Cmp c X .Eq (.int x) (.int y) l hp K := cmp_deq (.int x) (.int y) rfl rfl (by rw [eqv_int]; exact h)
theorem cmp_ne {x y : Int} (h : K (.bool (!decide (x = y))) l hp) : Cmp c X .NotEq (.int x) (.int y) l hp K := cmp_dne (.int x) (.int y) rfl rfl (by rw [eqv_int]; exact h)
theorem cmp_is_nn (h : K (.bool true) l hp) : Cmp c X .Is .none .none l hp K := by unfold Cmp; exact fun _ _ => (is_plainT is_nn).1 h
theorem cmp_is_vn {v : V} (s : someV v = true) (h : K (.bool false) l hp) : Cmp c X .Is v .none l hp K := by unfold Cmp; exact fun _ _ => (is_plainT (is_vn s)).1 h
theorem tru_bool {b : Bool} {K : KB} (h : K b l hp) : Tru c X (.bool b) l hp K := by unfold Tru; exact fun _ _ => tru_boolT h
theorem cb_len_ref {i : Nat} {vs : List V} (e : hp[i]? = some (.list vs)) (s : Side (vs.length < 2 ^ 63)) (h : K (.int vs.length) l hp) : CB c X "len" [.ref i] l hp K := by unfold CB; exact fun _ _ => len_refT e s.h h
theorem cb_len_scr (hc : CxIs c pg sc ns lev qt) (h : K (.int ns.length) l hp) : CB c X "len" [.scr] l hp K := by
  obtain ⟨rfl⟩ := hc
  unfold CB
  exact fun fx F => len_scrT F.all (by rw [F.ns]; exact h)
theorem cb_max {a b : Int} (hc : CxIs c pg sc ns lev true) (h : K (.int (if b > a then b else a)) l hp) : CB c X "max" [.int a, .int b] l hp K := by
  obtain ⟨rfl⟩ := hc
  unfold CB
  exact fun fx F => max_ok F.all (F.qt rfl) h
theorem cb_min {a b : Int} (hc : CxIs c pg sc ns lev true) (h : K (.int (if b < a then b else a)) l hp) : CB c X "min" [.int a, .int b] l hp K := by
  obtain ⟨rfl⟩ := hc
  unfold CB
  exact fun fx F => min_ok F.all (F.qt rfl) h
theorem cb_all {i : Nat} {bs : List Bool} (hc : CxIs c pg sc ns lev true) (e : hp[i]? = some (.list (bs.map .bool))) (h : K (.bool (bs.all id)) l hp) : CB c X "all" [.ref i] l hp K := by
  obtain ⟨rfl⟩ := hc
  unfold CB
  exact fun fx F => (all_any F.all (F.qt rfl) e).1 h
theorem cb_any {i : Nat} {bs : List Bool} (hc : CxIs c pg sc ns lev true) (e : hp[i]? = some (.list (bs.map .bool))) (h : K (.bool (bs.any id)) l hp) : CB c X "any" [.ref i] l hp K := by
  obtain ⟨rfl⟩ := hc
  unfold CB
  exact fun fx F => (all_any F.all (F.qt rfl) e).2 h
theorem isi_ii {a : Int} (h : K (.bool true) l hp) : CB c X "isinstance" [.int a, .glob (.type "int")] l hp K := by unfold CB; exact fun _ _ => isi_of (fun W s u Q E R r q => by cases r; exact IsiPair.int_int (q _)) h
theorem isi_ib {a : Int} (h : K (.bool false) l hp) : CB c X "isinstance" [.int a, .glob (.type "bool")] l hp K := by unfold CB; exact fun _ _ => isi_of (fun W s u Q E R r q => by cases r; exact IsiPair.int_bool (q _)) h
theorem isi_bi {a : Bool} (h : K (.bool true) l hp) : CB c X "isinstance" [.bool a, .glob (.type "int")] l hp K := by unfold CB; exact fun _ _ => isi_of (fun W s u Q E R r q => by cases r; exact IsiPair.bool_int (q _)) h
theorem isi_bb {a : Bool} (h : K (.bool true) l hp) : CB c X "isinstance" [.bool a, .glob (.type "bool")] l hp K := by unfold CB; exact fun _ _ => isi_of (fun W s u Q E R r q => by cases r; exact IsiPair.bool_bool (q _)) h
theorem isi_ni (h : K (.bool false) l hp) : CB c X "isinstance" [.none, .glob (.type "int")] l hp K := by unfold CB; exact fun _ _ => isi_of (fun W s u Q E R r q => by cases r; exact IsiPair.NoneType_int (q _)) h
theorem isi_si {a : Str} (h : K (.bool false) l hp) : CB c X "isinstance" [.str a, .glob (.type "int")] l hp K := by unfold CB; exact fun _ _ => isi_of (fun W s u Q E R r q => by cases r; exact IsiPair.str_int (q _)) h
theorem isi_ti {a : List V} (h : K (.bool false) l hp) : CB c X "isinstance" [.tup a, .glob (.type "int")] l hp K := by unfold CB; exact fun _ _ => isi_of (fun W s u Q E R r q => by obtain ⟨_, _, rfl, h2, _⟩ := R.tup_at r; exact isi_tup h2 rfl (by simp) q) h
theorem isi_rl {i : Nat} {vs : List V} (e : hp[i]? = some (.list vs)) (h : K (.bool true) l hp) : CB c X "isinstance" [.ref i, .glob (.type "list")] l hp K := by unfold CB; exact fun _ _ => isi_of (fun W s u Q E R r q => by obtain ⟨_, _, _, rfl, _, h2, _⟩ := R.list_at e r; exact isi_list h2 rfl (by simp) q) h
theorem isi_ri {i : Nat} {vs : List V} (e : hp[i]? = some (.list vs)) (h : K (.bool false) l hp) : CB c X "isinstance" [.ref i, .glob (.type "int")] l hp K := by unfold CB; exact fun _ _ => isi_of (fun W s u Q E R r q => by obtain ⟨_, _, _, rfl, _, h2, _⟩ := R.list_at e r; exact isi_list h2 rfl (by simp) q) h
theorem cb_append {i : Nat} {vs : List V} {v : V} (e : hp[i]? = some (.list vs)) (s : Side (vs.length ≤ sizeLine)) (h : K .none l (hp.set i (.list (vs ++ [v])))) : CB c X "list.append" [.ref i, v] l hp K := by unfold CB; exact fun _ _ => append_ok e s.h h
theorem ct_int {b : Bool} (h : K (.int (if b then 1 else 0)) l hp) : CT c X "int" [.bool b] l hp K := by unfold CT; exact fun _ _ => intBool_ok h
theorem ct_list_ref {i : Nat} {vs : List V} (e : hp[i]? = some (.list vs)) (s : Side (vs.length ≤ sizeLine)) (h : K (.ref hp.length) l (hp ++ [.list vs])) : CT c X "list" [.ref i] l hp K := by unfold CT; exact fun _ _ => listOf_ok (.inl ⟨_, rfl, e⟩) s.h h

theorem getI_nat {xs : List V} {k : Int} {v : V} (s : 0 ≤ k) (e : xs[k.toNat]? = some v) : getI xs k = some v := by
  unfold getI
  rw [if_pos s]
  exact e
theorem sb_ref {i : Nat} {xs : List V} {k : Int} {v : V} (e : hp[i]? = some (.list xs)) (s : Side (0 ≤ k ∧ k < 2 ^ 63)) (g : xs[k.toNat]? = some v) (h : K v l hp) : Sub c X (.ref i) (.int k) l hp K := by
  unfold Sub
  exact fun _ _ _ _ nsl => sub_list nsl e ⟨by have := s.h; omega, s.h.2⟩ (getI_nat s.h.1 g) h
theorem sb_neg {i : Nat} {xs : List V} {k : Int} {v : V} (e : hp[i]? = some (.list xs)) (s : Side (-(xs.length : Int) ≤ k ∧ k < 0 ∧ -(2 ^ 63) ≤ k)) (g : xs[(k + xs.length).toNat]? = some v) (h : K v l hp) : Sub c X (.ref i) (.int k) l hp K := by
  have s := s.h
  have ge : getI xs k = some v := by
    unfold getI
    rw [if_neg (by omega), if_pos s.1]
    exact g
  unfold Sub
  exact fun _ _ _ _ nsl => sub_list nsl e ⟨s.2.2, by omega⟩ ge h
theorem sb_tup {xs : List V} {k : Int} {v : V} (s : Side (0 ≤ k ∧ k < 2 ^ 63)) (g : xs[k.toNat]? = some v) (h : K v l hp) : Sub c X (.tup xs) (.int k) l hp K := by
  unfold Sub
  exact fun _ _ _ _ nsl => sub_tup nsl ⟨by have := s.h; omega, s.h.2⟩ (getI_nat s.h.1 g) h
theorem sb_scr {k : Int} {x : Int} (hc : CxIs c pg sc ns lev qt) (s : Side (0 ≤ k)) (g : ns[k.toNat]? = some x) (h : K (.int x) l hp) : Sub c X .scr (.int k) l hp K := by
  obtain ⟨rfl⟩ := hc
  unfold Sub
  exact fun fx F _ _ nsl => sub_scr F.all nsl s.h (by rw [F.ns]; exact g) h
theorem st_ref {i : Nat} {xs : List V} {k : Int} {v : V} {K : Lo → List O → Prop} (e : hp[i]? = some (.list xs)) (s : Side (0 ≤ k ∧ k < xs.length ∧ k < 2 ^ 63)) (h : K l (hp.set i (.list (xs.set k.toNat v)))) : Set' c X (.ref i) (.int k) v l hp K := by
  unfold Set'
  exact fun _ _ => set_list e s.h.1 s.h.2.1 s.h.2.2 h

theorem b_not {e : Expr} {K : KB} (h : B c X e l hp fun b l hp => K (!b) l hp) : B c X (.UnaryOp .Not e p) l hp K := by
  unfold B at *
  exact fun fx F => evB_not (h fx F)
theorem b_boolop {op : BoolOp} {es : List Expr} {K : KB} (h : BL c X op es l hp K) : B c X (.BoolOp op es p) l hp K := by
  unfold B BL at *
  exact fun fx F => h fx F p
theorem bl_and_nil {K : KB} (h : K true l hp) : BL c X .And [] l hp K := by unfold BL; exact fun _ _ _ => evB_and_nil h
theorem bl_or_nil {K : KB} (h : K false l hp) : BL c X .Or [] l hp K := by unfold BL; exact fun _ _ _ => evB_or_nil h
theorem bl_and {e : Expr} {r : List Expr} {K : KB} (h : B c X e l hp fun b l hp => If b (BL c X .And r l hp K) (K false l hp)) : BL c X .And (e :: r) l hp K := by
  unfold B BL If at *
  refine fun fx F pos => evB_and ((h fx F).mono fun b σ h₁ => ?_)
  cases b with
  | true => exact h₁ fx F pos
  | false => exact h₁
theorem bl_or {e : Expr} {r : List Expr} {K : KB} (h : B c X e l hp fun b l hp => If b (K true l hp) (BL c X .Or r l hp K)) : BL c X .Or (e :: r) l hp K := by
  unfold B BL If at *
  refine fun fx F pos => evB_or ((h fx F).mono fun b σ h₁ => ?_)
  cases b with
  | true => exact h₁
  | false => exact h₁ fx F pos
theorem b_cmp {a b : Expr} {op : CmpOp} {K : KB} (hm : behindInMarks op b = false) (h : E c X a l hp fun v l hp => E c X b l hp fun w l hp => Cmp c X op v w l hp fun r l hp => Tru c X r l hp K) : B c X (.Compare a [op] [b] p) l hp K := by
  unfold B
  unfold E Cmp Tru at h
  exact fun fx F => evB_cmp1 ((h fx F).mono fun v σ h₁ => (h₁ fx F).mono fun w σ' h₂ => (h₂ fx F).mono fun r σ'' h₃ => h₃ fx F) hm
theorem b_plain {e : Expr} {K : KB} (k : plainT e = true) (h : E c X e l hp fun v l hp => Tru c X v l hp K) : B c X e l hp K := by
  unfold B
  unfold E Tru at h
  exact fun fx F => evB_plain ((h fx F).mono fun v σ h₁ => h₁ fx F) (plainT_of k)
theorem if_b {b : Bool} {P Q : Prop} (h : b = true → P) (h' : b = false → Q) : If b P Q := by
  unfold If
  cases b
  · exact h' rfl
  · exact h rfl
theorem if_t {P Q : Prop} (h : P) : If true P Q := by
  unfold If
  exact h
theorem if_f {P Q : Prop} (h : Q) : If false P Q := by
  unfold If
  exact h
theorem if_decide {P A B : Prop} [d : Decidable P] (h : P → A) (h' : ¬ P → B) : If (decide P) A B := if_b (fun q => h (of_decide_eq_true q)) (fun q => h' (of_decide_eq_false q))
theorem if_ndecide {P A B : Prop} [d : Decidable P] (h : ¬ P → A) (h' : P → B) : If (!decide P) A B := if_b (fun q => h (by simpa using q)) (fun q => h' (by simpa using q))
theorem rng1 {b : Int} {P : List V → Prop} (s : Side (-(2 ^ 62) ≤ b ∧ b < 2 ^ 62)) (h : P (rngItems 0 b.toNat)) : Rng [.int b] P := by
  unfold Rng
  exact .inl ⟨b, rfl, s.h, h⟩
theorem rng2 {a b : Int} {P : List V → Prop} (s : Side ((-(2 ^ 62) ≤ a ∧ a < 2 ^ 62) ∧ (-(2 ^ 62) ≤ b ∧ b < 2 ^ 62))) (h : P (rngItems a (b - a).toNat)) : Rng [.int a, .int b] P := by
  unfold Rng
  exact .inr ⟨a, b, rfl, s.h, h⟩
theorem i_range {f : Str} {a : Expr} {args : List Expr} {P : KI} (hc : CxIs c pg sc ns lev true) (g : pg.gl f = some (.type "range")) (k : sc.names.lookup f = some .globalImplicit) (st : (a :: args).all noStar = true) (h : Es c X (a :: args) l hp fun vs l hp => Rng vs fun its => P its (fun _ => True) l hp) :
    I c X (.Call (.Name f q) (a :: args) [] p) l hp P := by
  obtain ⟨rfl⟩ := hc
  unfold I
  unfold Es Rng at h
  exact fun fx F => iter_range F.all (F.qt rfl) (by rw [F.pg]; exact g) (by rw [F.kind]; exact k) (F.name k).1 st (h fx F)
theorem i_val {e : Expr} {P : KI} (h : E c X e l hp fun v l hp => Srv c v l hp P) : I c X e l hp P := by
  unfold I
  unfold E Srv at h
  exact fun fx F => iter_val ((h fx F).mono fun v σ h₁ => h₁ fx F)
theorem srv_ref {i : Nat} {its : List V} {P : KI} (hc : CxIs c pg sc ns lev true) (e : hp[i]? = some (.list its)) (h : P its (fun σ' => σ'.hp[i]? = some (.list its)) l hp) : Srv c (.ref i) l hp P := by
  obtain ⟨rfl⟩ := hc
  unfold Srv
  exact fun fx F => srv_refT F.all (F.qt rfl) e h
/-! comprehensions -/
def compCk (sc csc : Scope) (t : Expr) : Bool := compOkB sc csc && nmsOk csc && tgtOk (fun x => csc.names.lookup x == some .local) t
theorem nms_relab {csc : Scope} (h : nmsOk csc = true) : nmsOk (relab csc) = true := by
  unfold nmsOk relab
  rw [List.all_map]
  refine List.all_eq_true.mpr fun y hy => ?_
  have := List.all_eq_true.mp h y hy
  dsimp only [Function.comp]
  split <;> exact this
@[irreducible] def Comp (c : Cx) (elt t : Expr) (ifs : List Expr) (csc : Scope) (its : List V) (need : St → Prop) (l : Lo) (hp : List O) (K : List O → Prop) : Prop :=
  ∃ J, (∀ fx, FxAt c fx → CompJ fx elt t ifs csc its need ⟨l, hp⟩ J) ∧ ∀ hp', J its.length hp' → K hp'
theorem e_comp {elt t iter : Expr} {ifs : List Expr} {csc : Scope} (hc : CxIs c pg sc ns lev true) (ck : compCk sc csc t = true) (ns' : notSet iter = true) (h : I c X iter l hp fun its need l hp => Comp c elt t ifs csc its need l hp fun hp' => K (.ref hp.length) l hp') : E c X (.ListComp elt [⟨t, iter, ifs, 0⟩] csc p) l hp K := by
  obtain ⟨rfl⟩ := hc
  unfold compCk at ck
  simp only [Bool.and_eq_true] at ck
  unfold E
  unfold I Comp at h
  exact fun fx F => evComp F.all (F.qt rfl) (compOk_of F.sc ck.1.1) (folded_of ns' _) ((h fx F).mono fun its need σ ⟨J, h1, h2⟩ => ⟨J, h1 fx F, h2⟩)
theorem s_comp {x : Str} {elt t iter : Expr} {ifs : List Expr} {csc : Scope} {K : KF} (hc : CxIs c pg sc ns lev true) (kx : varOk sc x = true) (ck : compCk sc csc t = true) (ns' : notSet iter = true) (h : I c X iter l hp fun its need l hp => Comp c elt t ifs csc its need l hp fun hp' => K .next (setN l x (.ref hp.length)) hp') : S c X (.Assign [.Name x q] (.ListComp elt [⟨t, iter, ifs, 0⟩] csc r) p) l hp K := by
  obtain ⟨rfl⟩ := hc
  unfold compCk at ck
  simp only [Bool.and_eq_true] at ck
  unfold S
  unfold I Comp at h
  exact fun fx F hL => evAssignComp F.all (F.qt rfl) (isVar_of F hL kx) (compOk_of F.sc ck.1.1) (folded_of ns' _) ((h fx F).mono fun its need σ ⟨J, h1, h2⟩ => ⟨J, h1 fx F, h2⟩)
/-- a comprehension with no test, by a relation -/
theorem comp_gen (hc : CxIs c pg sc ns lev qt) {elt t : Expr} {csc : Scope} {its : List V} {need : St → Prop} {K : List O → Prop} (ck : compCk sc csc t = true) (R : Nat → V → Prop) (hl : its.length ≤ sizeLine) (hneed : ∀ vs : List V, need ⟨l, hp ++ [.list vs]⟩)
    (turn : ∀ (k : Nat) (hk : k < its.length) (vs : List V), vs.length = k → (∀ (j : Nat) (hj : j < vs.length), R j vs[j]) → ∃ bs, tgtV t its[k] = some bs ∧ ∀ c', CxIs c' pg (relab csc) ns lev qt → E c' X0 elt (setAll (compLoc csc l) bs) (hp ++ [.list vs]) (fun v _ hp' => hp' = hp ++ [.list vs] ∧ R k v))
    (fin : ∀ vs : List V, vs.length = its.length → (∀ (j : Nat) (hj : j < vs.length), R j vs[j]) → K (hp ++ [.list vs])) : Comp c elt t [] csc its need l hp K := by
  obtain ⟨rfl⟩ := hc
  unfold compCk at ck
  simp only [Bool.and_eq_true] at ck
  unfold Comp
  refine ⟨fun k hp' => ∃ vs : List V, vs.length = k ∧ (∀ (j : Nat) (hj : j < vs.length), R j vs[j]) ∧ hp' = hp ++ [.list vs], fun fx F => ⟨⟨[], rfl, fun j hj => by simp at hj, rfl⟩, fun k hp' ⟨vs, _, _, e⟩ => e ▸ hneed vs, hl, ?_⟩, fun hp' ⟨vs, e1, e2, e3⟩ => e3 ▸ fin vs e1 e2⟩
  rintro k hp' hk ⟨vs, hv, hR, rfl⟩
  obtain ⟨bs, e, x⟩ := turn k hk vs hv hR
  have co := compOk_of F.sc ck.1.1
  refine ⟨bs, e, fun b hb => by simpa using tgt_ok ck.2 e b hb, fun fc allc e1 e2 e3 e5 e4 => evTs_nil ?_⟩
  have x := x _ ⟨rfl⟩
  unfold E at x
  refine (x fc ⟨allc, e1.trans F.pg, e4.trans (relabel_eq co F.all.ok.kind), e2.trans F.ns, by rw [e3]; exact F.lev, fun z => e5.trans (F.qt z), nms_relab ck.1.2⟩).mono fun v σ ⟨e1, e2⟩ => ?_
  refine ⟨vs, by rw [e1]; simp, by omega, vs ++ [v], by simp [hv], fun j hj => ?_, by rw [e1]; simp⟩
  rcases Nat.lt_or_ge j vs.length with q | q
  · rw [List.getElem_append_left q]
    exact hR j q
  · have : j = vs.length := by simp at hj; omega
    subst this
    simp
    rw [hv]
    exact e2

theorem s_ret {e : Expr} {K : KF} (h : E c X e l hp fun v l hp => K (.ret v) l hp) : S c X (.Return (some e) p) l hp K := by
  unfold S
  unfold E at h
  exact fun fx F _ => evReturn (h fx F)
theorem s_expr {e : Expr} {K : KF} (nc : notComp e = true) (h : E c X e l hp fun _ l hp => K .next l hp) : S c X (.Expr e p) l hp K := by
  unfold S
  unfold E at h
  exact fun fx F _ => evExpr F.all.ok (h fx F) nc
theorem s_asg {x : Str} {e : Expr} {K : KF} (hc : CxIs c pg sc ns lev qt) (nc : notComp e = true) (kx : varOk sc x = true) (h : E c X e l hp fun v l hp => K .next (setN l x v) hp) : S c X (.Assign [.Name x q] e p) l hp K := by
  obtain ⟨rfl⟩ := hc
  unfold S
  unfold E at h
  exact fun fx F hL => evAssignName F.all (isVar_of F hL kx) (h fx F) nc
theorem s_asgS {o i e : Expr} {K : KF} (nc : notComp e = true) (h : E c X e l hp fun v l hp => E c X o l hp fun ov l hp => E c X i l hp fun iv l hp => Set' c X ov iv v l hp fun l hp => K .next l hp) : S c X (.Assign [.Subscript o i q] e p) l hp K := by
  unfold S
  unfold E Set' at h
  exact fun fx F _ => evAssignSub ((h fx F).mono fun v σ h₁ => (h₁ fx F).mono fun ov σ' h₂ => (h₂ fx F).mono fun iv σ'' h₃ => h₃ fx F) nc
theorem s_if {t : Expr} {b o : List Stmt} {K : KF} (h : B c X t l hp fun d l hp => If d (Ss c X b l hp K) (Ss c X o l hp K)) : S c X (.If t b o p) l hp K := by
  unfold S
  unfold B If Ss at h
  refine fun fx F hL => evIf ((h fx F).mono fun d σ h₁ => ?_)
  cases d with
  | true => exact h₁ fx F hL
  | false => exact h₁ fx F hL
theorem ss_nil {K : KF} (h : K .next l hp) : Ss c X [] l hp K := by unfold Ss; exact fun _ _ _ => evSs_nil h
theorem ss_cons {st : Stmt} {r : List Stmt} {K : KF} (h : S c X st l hp fun fl l hp => match fl with | .next => Ss c X r l hp K | f => K f l hp) : Ss c X (st :: r) l hp K := by
  unfold Ss
  unfold S at h
  refine fun fx F hL => evSs_cons ((h fx F hL).mono fun fl σ h₁ => ?_)
  cases fl with
  | next =>
    dsimp only at h₁
    unfold Ss at h₁
    exact h₁ fx F hL
  | _ => exact h₁
theorem ss_asg {ts : List Expr} {e : Expr} {r : List Stmt} {K : KF} (h : S c X (.Assign ts e p) l hp fun fl l hp => match fl with | .next => Ss c X r l hp K | f => K f l hp) : Ss c X (.Assign ts e p :: r) l hp K := ss_cons h
theorem ss_expr {e : Expr} {r : List Stmt} {K : KF} (h : S c X (.Expr e p) l hp fun fl l hp => match fl with | .next => Ss c X r l hp K | f => K f l hp) : Ss c X (.Expr e p :: r) l hp K := ss_cons h
theorem ss_ret {e : Option Expr} {r : List Stmt} {K : KF} (h : S c X (.Return e p) l hp fun fl l hp => match fl with | .next => Ss c X r l hp K | f => K f l hp) : Ss c X (.Return e p :: r) l hp K := ss_cons h
theorem ss_raise {a b : Option Expr} {r : List Stmt} {K : KF} (h : S c X (.Raise a b p) l hp fun fl l hp => match fl with | .next => Ss c X r l hp K | f => K f l hp) : Ss c X (.Raise a b p :: r) l hp K := ss_cons h
theorem ss_if {t : Expr} {b o r : List Stmt} {K : KF} (h : B c X t l hp fun d l hp => If d (Ss c X b l hp (fun fl l hp => match fl with | .next => Ss c X r l hp K | f => K f l hp)) (Ss c X o l hp (fun fl l hp => match fl with | .next => Ss c X r l hp K | f => K f l hp))) : Ss c X (.If t b o p :: r) l hp K := ss_cons (s_if h)
theorem s_mono {st : Stmt} {K K' : KF} (h : S c X st l hp K) (hk : ∀ fl l hp, K fl l hp → K' fl l hp) : S c X st l hp K' := by
  unfold S at *
  exact fun fx F hL => (h fx F hL).mono fun _ _ x => hk _ _ _ x
theorem ss_cut {st : Stmt} {rest : List Stmt} {K : KF} (P : Lo → List O → Prop) (h1 : S c X st l hp (fun fl l hp => fl = .next ∧ P l hp)) (h2 : ∀ l hp, P l hp → Ss c X rest l hp K) : Ss c X (st :: rest) l hp K :=
  ss_cons (s_mono h1 fun fl l hp ⟨e, x⟩ => by subst e; exact h2 l hp x)
theorem s_for {t iter : Expr} {b : List Stmt} {K : KF} (hc : CxIs c pg sc ns lev true) (tk : tgtOk (varOk sc) t = true) (ns' : notSet iter = true)
    (h : I c X iter l hp fun its need l hp => ∃ J : Nat → Lo → List O → Prop, J 0 l hp ∧ (∀ k l hp, J k l hp → need ⟨l, hp⟩) ∧
      (∀ (k : Nat) (hk : k < its.length) l hp, J k l hp → ∃ bs, tgtV t its[k] = some bs ∧ Ss c X b (setAll l bs) hp fun fl l hp => match fl with | .next | .cont => J (k + 1) l hp | .brk => K .next l hp | .ret v => K (.ret v) l hp) ∧
      ∀ l hp, J its.length l hp → K .next l hp) : S c X (.For t iter b [] p) l hp K := by
  obtain ⟨rfl⟩ := hc
  unfold S
  unfold I at h
  refine fun fx F hL => evFor F.all hL ((h fx F).mono fun its need σ ⟨J, h1, h2, h3, h4⟩ => ⟨fun k σ => J k σ.loc σ.hp, h1, fun k σ x => h2 k σ.loc σ.hp x, fun k σ' hk hJ ps al => ?_, fun σ x => h4 _ _ x⟩) (folded_of ns' _)
  obtain ⟨bs, e, y⟩ := h3 k hk σ'.loc σ'.hp hJ
  have Fp := F.push al
  unfold Ss at y
  refine asgT_of al (F.qt rfl) e (fun b hb => isVar_of Fp hL (tgt_ok tk e b hb)) ((y _ Fp hL).mono fun fl σ₂ z => ?_)
  cases fl <;> exact z
theorem tgt1 {x : Str} {v : V} : tgtV (.Name x p) v = some [(x, v)] := rfl
theorem s_for1 {x : Str} {iter : Expr} {b : List Stmt} {K : KF} (hc : CxIs c pg sc ns lev true) (tk : tgtOk (varOk sc) (.Name x q) = true) (ns' : notSet iter = true)
    (h : I c X iter l hp fun its need l hp => ∃ J : Nat → Lo → List O → Prop, J 0 l hp ∧ (∀ k l hp, J k l hp → need ⟨l, hp⟩) ∧
      (∀ (k : Nat) (hk : k < its.length) l hp, J k l hp → Ss c X b (setN l x its[k]) hp fun fl l hp => match fl with | .next | .cont => J (k + 1) l hp | .brk => K .next l hp | .ret v => K (.ret v) l hp) ∧
      ∀ l hp, J its.length l hp → K .next l hp) : S c X (.For (.Name x q) iter b [] p) l hp K := by
  refine s_for hc tk ns' ?_
  unfold I at *
  exact fun fx F => (h fx F).mono fun its need σ ⟨J, h1, h2, h3, h4⟩ => ⟨J, h1, h2, fun k hk l hp x => ⟨_, tgt1, h3 k hk l hp x⟩, h4⟩
theorem s_while {t : Expr} {b : List Stmt} {K : KF} (J : Nat → Lo → List O → Prop) (m : Nat) (h0 : J m l hp)
    (turn : ∀ m l hp, J m l hp → B c X t l hp fun d l hp => If d (Ss c X b l hp (fun fl l hp => match fl with | .next | .cont => ∃ m', m' < m ∧ J m' l hp | .brk => K .next l hp | .ret v => K (.ret v) l hp)) (K .next l hp)) :
    S c X (.While t b [] p) l hp K := by
  unfold S
  refine fun fx F hL => evWhile F.all hL (fun m σ => J m σ.loc σ.hp) m h0 fun m σ hJ => ?_
  have y := turn m σ.loc σ.hp hJ
  unfold B If Ss at y
  refine (y fx F).mono fun d σ₁ h₁ => ?_
  cases d with
  | true => exact (h₁ fx F hL).mono fun fl σ₂ z => by cases fl <;> exact z
  | false => exact h₁

/-! exceptions -/
theorem s_raise {x : Str} {C : Addr} {e₀ : Expr} {rest : List Expr} {K : KF} (hc : CxIs c pg sc ns lev true) (g : pg.gl x = some (.ref C)) (g1 : nsIn pg.K mainGlobals x = some (some (.ref C))) (g2 : excIn pg.K C veMro "ValueError.__new__" = true) (k : sc.names.lookup x = some .globalImplicit) (st : (e₀ :: rest).all noStar = true)
    (h : Es c X (e₀ :: rest) l hp fun vs l hp => Sz vs (X (.ref C) ⟨l, hp⟩)) : S c X (.Raise (some (.Call (.Name x q) (e₀ :: rest) [] r)) none p) l hp K := by
  obtain ⟨rfl⟩ := hc
  unfold S
  unfold Es Sz at h
  exact fun fx F _ => evRaise F.all (F.qt rfl) (by rw [F.pg]; exact g) (by rw [F.pg]; exact g1) (by rw [F.pg]; exact g2) (by rw [F.kind]; exact k) (F.name k).1 st (h fx F)
theorem s_try {b : List Stmt} {h₀ : ExceptHandler} {hs : List ExceptHandler} {K : KF} (h : Ss c (fun cls σ => Hd c X (h₀ :: hs) cls σ.loc σ.hp K) b l hp K) : S c X (.Try b (h₀ :: hs) [] [] p) l hp K := by
  unfold S
  unfold Ss at h
  exact fun fx F hL => evTry F.all hL (h fx F hL) fun cls σ' hX => by unfold Hd at hX; exact hX fx F hL
theorem fxH_at {fx : Fx} (F : FxAt c fx) (e : Addr) : FxAt { c with qt := false } (fxH fx e) := ⟨fxH_all F.all e, F.pg, F.sc, F.ns, F.lev, fun z => (by cases z), F.nk⟩
theorem hd_hit0 {y : Str} {b₀ : Stmt} {suite : List Stmt} {r : List ExceptHandler} {cls cv : Value} {K : KF} (hc : CxIs c pg sc ns lev qt) (g : pg.gl y = some cv) (e : exmOne pg.K cls cv = some true) (k : sc.names.lookup y = some .globalImplicit) (h : ∀ c', CxIs c' pg sc ns lev false → Ss c' X0 (b₀ :: suite) l hp K) :
    Hd c X (.ExceptHandler (some (.Name y q)) none (b₀ :: suite) p :: r) cls l hp K := by
  obtain ⟨rfl⟩ := hc
  have h := h _ ⟨rfl⟩
  unfold Ss at h
  unfold Hd
  exact fun fx F hL => evH_hit0 F.all (by rw [F.pg]; exact g) (by rw [F.kind]; exact k) (F.name k).1 (by rw [F.pg]; exact e) fun a => h _ (fxH_at F a) hL
end
end Mine

set_option autoImplicit false
namespace Mine
open PySem PySem.W PySem.Calls PySem.Spec PyProof.Rows

/-! a loop over a zip of two lists -/
section
variable {fx : Fx} {X : XP} {σ : St} {W : Wd} {s : Shared}
end
section
variable {c : Cx} {X : XP} {l : Lo} {hp : List O} {p q r : Pos} {pg : Pg} {sc : Scope} {ns : List Int} {lev : Nat}
end
end Mine

set_option autoImplicit false
namespace Mine
open PySem PySem.W PySem.Calls PySem.Spec PyProof.Rows

theorem law_run {pg : Pg} {s₁ : Shared} {law : Str} {f fa a : Addr} {x : Str} {body : List Stmt} {scope : Scope} {vals : List Value} {ns : List Int} {R : Result → Shared → Prop}
    (T : Top pg.p pg.loose pg.mean pg.mg pg.mb s₁.heap) (KX : pg.K.In s₁.heap) (hgl : nsIn pg.K mainGlobals law = some (some (.ref f))) (hmg : pg.mg law = some (.ref fa)) (D : FnAt pg f [x] body scope) (nk : nmsOk scope = true)
    (hL : s₁.heap.IsList a vals.toArray) (hI : IntsAre vals ns) (hn : ns.length ≤ 63)
    (h : ∀ fx, FxAt ⟨pg, scope, ns, 600, true⟩ fx → fx.env.locals = fx.L → EvSs fx X0 body ⟨bindV [x] [.scr] (fun _ => none), []⟩ (fun fl _ => fl = .ret (.bool true)))
    (hR : ∀ s' m', Fr s₁.heap s₁.heap.objs.size s'.heap m' → s'.gens = s₁.gens → s'.os = s₁.os → R (.ok (.ret (.bool true))) s') :
    codeAny (model pg.prog pg.w) callerA (.call (.ref fa) ⟨[.ref a], []⟩) R s₁ := by
  have e := mg_of KX T.g hgl
  rw [hmg] at e
  cases e
  obtain ⟨name, qual, params, dV, kV, doc, pm, an, cdv, ct, oc, od, osl, ho, hcd, hbind⟩ := D.data
  have hb := hbind [.ref a] rfl
  refine codeAny_call_function (by decide) (KX _ _ ho) rfl D.hco D.hgen rfl (codeRec_of KX hcd) ((BindsTo.of_eq hb) _ _ _ _ ?_)
  refine wpAny_newFunctionEnv_cells D.hk (fun y hy => ?_) fun env' he s' x' => ?_
  · have hx' : y.1 ∈ [x] := (List.of_mem_zip (a := y.1) (b := y.2) hy).1
    rcases D.kinds y.1 hx' with q | q
    · exact .inl q
    · exact .inr ⟨q, cf_some _ _ _ (.inl q)⟩
  subst he
  refine ⟨T.nolimit.keeps x'.toInCall.keep, codeAny_func ?_⟩
  obtain ⟨h₁, tk, rfl, _⟩ := x'.done
  have hk₁ := x'.toInCall.keep
  obtain ⟨cells, N, Y⟩ := Cl.news (h₀ := s₁.heap) (Nat.le_refl _) fun n c hm => ⟨x'.cell n c (lookup_of_mem_nodup (cellsFrom_names scope.names 0 (s₁.heap.objs.size + 1) [] [] rfl ▸ D.cells) hm), x'.above n c hm⟩
  let L' := s₁.heap.objs.size
  have keysC := cellsAre_keys Y
  have cfa := cf_addr scope.names (L' + 1) (L' + 1) [] (Nat.le_refl _) (by simp) (fun p hp => by cases hp)
  have cellAt : ∀ y c, (cellsFrom (L' + 1) scope.names []).lookup y = some c → ∃ o, (c, o) ∈ cells ∧ o.data = .cell (bindC (envOfC qual scope L' f cdv).kindOf ([x].zip [.ref a]) (fun _ => none) y) := fun y c h => cellsAre_at Y (lookup_mem h)
  have F' : Fr s₁.heap L' h₁ (bindL (envOfC qual scope L' f cdv).kindOf ([x].zip [.ref a]) fun _ => none) := ⟨x'.toInCall.ns, hk₁, Nat.le_refl _⟩
  let fx : Fx := { pg := pg, A := callerA.deeper (envOfC qual scope L' f cdv), env := envOfC qual scope L' f cdv, fenv := envOfC qual scope L' f cdv, outer := [], A₀ := callerA, base := s₁.heap, h₀ := s₁.heap, L := L',
                   ex := [], s₀ := s₁, sc := a, ns := ns, lev := 600, mfix := none, qt := true }
  have all : FxAll fx := {
    ok := ⟨D.hk, fun _ => rfl⟩
    locs := .inl rfl
    cex := fun _ x c h p hp => by cases hp
    cinj := fun x y c h h' => snd_inj cfa.1 (lookup_mem h) (lookup_mem h')
    cdef := fun x h q => by
      have := cf_some (x := x) scope.names (L' + 1) [] (.inl h)
      rw [show (cellsFrom (L' + 1) scope.names []).lookup x = none from q] at this
      cases this
    scr := by
      obtain ⟨o, h1, h2, n, h3⟩ := hL
      exact ⟨vals, n, o, h1, h2, h3, hI, Nat.lt_of_le_of_lt hn (by decide)⟩
    egl := rfl
    ebu := rfl
    top := T
    part := KX
    below := below_caller _
    dicts := ktsDicts_nil
    frs := rfl
    ffr := rfl
    fkd := D.hk
    depth := by show 1 + claimMargin + 1 + 600 < recursionLimit; decide
    room := by show 4 + 3 + 8 * 600 + 100 < cLine; decide
    mfn := fun _ => rfl
    envf := fun _ => rfl }
  have R' : Rep fx ⟨bindV [x] [.scr] (fun _ => none), []⟩ ⟨[], [], a⟩ { s₁ with heap := h₁, toks := tk } := by
    refine ⟨rfl, _, _, cells, .refl, F', N, ⟨?_, ?_, ?_, List.nodup_nil, rfl, ?_, ?_, fun y v h => ?_, fun y c h => ?_, rfl, ?_, ?_⟩⟩
    · rw [keysC]; exact cfa.1
    · intro p hp; cases hp
    · intro p hp; cases hp
    · intro i o h; simp at h
    · intro t ht; cases ht
    · obtain ⟨u, h1, h2⟩ := bind_rel (W := ⟨[], [], a⟩) (xs := [x]) (vs := [.scr]) (us := [.ref a]) (kindOf := (envOfC qual scope L' f cdv).kindOf) (.cons .scr .nil) D.kinds (fun _ => none) (fun _ => none) (fun _ => none) (fun y v h => by cases h) y v h
      refine ⟨u, h1, ?_⟩
      rcases h2 with ⟨k1, k2⟩ | ⟨k1, k2⟩
      · exact .loc k1 rfl k2
      · have hs := cf_some (x := y) scope.names (L' + 1) [] (.inl k1)
        obtain ⟨c, hc⟩ := Option.isSome_iff_exists.mp hs
        obtain ⟨o, ho, hd⟩ := cellAt y c hc
        exact .cell (.inl k1) hc ho (by rw [hd, k2])
    · obtain ⟨o, ho, hd⟩ := cellAt y c h
      exact ⟨List.not_mem_nil, o, _, ho, hd⟩
    · intro _ q; cases q
    · intro p hp; cases hp
  refine wpAny_mono (h fx ⟨all, rfl, rfl, rfl, Nat.le_refl _, fun _ => rfl, nk⟩ rfl _ _ R') ?_ fun _ _ x => x.never.elim
  rintro fl s' ⟨W', σ', fl', le', ⟨er, g', m', news', G'', F₁, _, _⟩, r'', rfl⟩
  have F'' : Fr s₁.heap s₁.heap.objs.size s'.heap m' := ⟨F₁.ns, fun b o e => F₁.keep b o (G''.other b o e (by simp [fx])), Nat.le_refl _⟩
  cases r'' with
  | ret r =>
    cases r
    exact hR s' m' F'' (by rw [er]) (by rw [er])

end Mine

set_option autoImplicit false
namespace Mine
open PySem PySem.W PySem.Calls PySem.Spec PyProof.Rows
open PySem.Builtin PySem.Builtin.ObjectAttr PySem.Builtin.Getset_descriptor

/-! isinstance of an exception of an own class -/
section
variable {prog : Program} {w : World} {A : Around} {E : Value → Shared → Prop} {s : Shared} {K : Frag} {x D : Addr}
end

end Mine

set_option autoImplicit false
namespace Mine
open PySem PySem.W PySem.Calls PySem.Spec PyProof.Rows

/-! a list times a number; the least of a list -/
section
variable {fx : Fx} {X : XP} {σ : St} {W : Wd} {s : Shared}
theorem VRs.rep {vs : List V} {us : List Value} (r : VRs W vs us) : ∀ n : Nat, VRs W (List.replicate n vs).flatten (List.replicate n us).flatten
  | 0 => .nil
  | n + 1 => by rw [List.replicate_succ, List.flatten_cons, List.replicate_succ, List.flatten_cons]; exact r.append (r.rep n)
theorem bin_repT {i : Nat} {vs : List V} {x : Int} {Q : V → St → Prop} (h1 : σ.hp[i]? = some (.list vs)) (hx : 0 ≤ x ∧ vs.length * x.toNat ≤ 256 ∧ x < 2 ^ 62) (h4 : Q (.ref σ.hp.length) ⟨σ.loc, σ.hp ++ [.list (List.replicate x.toNat vs).flatten]⟩) : BinT fx X .Mult (.ref i) (.int x) σ Q := by
  intro W s u₁ u₂ R r₁ r₂
  obtain ⟨a, xs, n, rfl, _, k1, k2⟩ := R.list_at h1 r₁
  refine R.elim fun er g m news G F N C => ?_
  cases r₂
  refine KMa.mul F N (listObj_isList k1) (by omega) (by omega) (by rw [← k2.length]; exact hx.2.1) rfl (fun D h' F' N' lt => ?_)
  obtain ⟨W', le', hD, R'⟩ := Rep.addN er G C (o := .list (List.replicate x.toNat vs).flatten) F' N' (fun p hp => Nat.ne_of_lt (lt p hp)) fun W' le => .list 0 ((k2.mono le).rep _)
  exact ⟨W', _, .ref σ.hp.length, le', R', .ref hD, h4⟩
theorem minL_ok (all : FxAll fx) (hq : fx.qt = true) {i : Nat} {xs : List Int} {Q : V → St → Prop} (ho : σ.hp[i]? = some (.list (xs.map .int))) (hne : 0 < xs.length) (h : ∀ M, M ∈ xs → (∀ a ∈ xs, M ≤ a) → Q (.int M) σ) : CallT fx X (.builtin "min") [.ref i] σ Q := by
  intro W s us R r
  cases r with
  | cons r₁ r =>
    cases r
    obtain ⟨a, us, n, rfl, _, k1, k2⟩ := R.list_at ho r₁
    have hI : IntsAre us xs := by
      clear ho h hne k1
      induction xs generalizing us with
      | nil => cases k2; exact .nil
      | cons b bs ih =>
        cases k2 with
        | cons a r => cases a; exact .cons _ _ (ih _ r)
    obtain ⟨ys, hy⟩ := (show AllInts us.toArray from hI.allInts).items
    have en : numsOf us.toArray.toList = xs := by rw [show us.toArray.toList = us from rfl, hI.numsOf]
    rw [hy, nums_intItems] at en
    have hsz : 0 < ys.size := by
      have : (ys.toList.map (·.1)).length = xs.length := by rw [en]
      simp at this
      omega
    refine min_intList (all.ok.handled hq) (hy ▸ listObj_isList k1) hsz fun v h' tk hv hk => ?_
    obtain ⟨t, rfl⟩ := intItems_at hv
    obtain ⟨h1, h2⟩ := argBest_lt (numAt ys) (ys.size - 1)
    refine .here (R.keep tk hk) (.int _ _) (h _ ?_ fun a ha => ?_)
    · rw [← en, numAt_eq]; exact getD_mem (by rw [List.length_map, Array.length_toList]; omega)
    · rw [← en] at ha
      obtain ⟨j, hj, rfl⟩ := mem_getD ha
      rw [List.length_map, Array.length_toList] at hj
      rw [← numAt_eq]; exact h2 j (by omega)
end
section
variable {c : Cx} {X : XP} {l : Lo} {hp : List O} {K : KV}
theorem bin_rep {i : Nat} {vs : List V} {x : Int} (h1 : hp[i]? = some (.list vs)) (s : Side (0 ≤ x ∧ vs.length * x.toNat ≤ 256 ∧ x < 2 ^ 62)) (h : K (.ref hp.length) l (hp ++ [.list (List.replicate x.toNat vs).flatten])) : Bin c X .Mult (.ref i) (.int x) l hp K := by
  unfold Bin
  exact fun _ _ => bin_repT h1 s.h h
theorem cb_minL {pg : Pg} {sc : Scope} {ns : List Int} {lev : Nat} {i : Nat} {xs : List Int} (hc : CxIs c pg sc ns lev true) (e : hp[i]? = some (.list (xs.map .int))) (s : Side (0 < xs.length)) (h : ∀ M, M ∈ xs → (∀ a ∈ xs, M ≤ a) → K (.int M) l hp) : CB c X "min" [.ref i] l hp K := by
  obtain ⟨rfl⟩ := hc
  unfold CB
  exact fun fx F => minL_ok F.all (F.qt rfl) e s.h h
end
end Mine

set_option autoImplicit false
namespace Mine
open PySem PySem.W PySem.Calls PySem.Spec PyProof.Rows

theorem fn1 {α : Type} {P : List α → Prop} (h : ∀ a, P [a]) : ∀ us : List α, us.length = 1 → P us
  | [a], _ => h a
theorem fn2 {α : Type} {P : List α → Prop} (h : ∀ a b, P [a, b]) : ∀ us : List α, us.length = 2 → P us
  | [a, b], _ => h a b
theorem fn3 {α : Type} {P : List α → Prop} (h : ∀ a b c, P [a, b, c]) : ∀ us : List α, us.length = 3 → P us
  | [a, b, c], _ => h a b c
theorem fn4 {α : Type} {P : List α → Prop} (h : ∀ a b c d, P [a, b, c, d]) : ∀ us : List α, us.length = 4 → P us
  | [a, b, c, d], _ => h a b c d
theorem fnAt_of {pg : Pg} {f : Addr} {xs : List Str} {name qual : Str} {params : Arguments} {body : List Stmt} {scope : Scope} {dV kV doc pm an cdv ct oc od osl} (h1 : pg.K.lookup f = some ⟨oc, od, .func (fnOf name qual params body scope dV kV doc pm an cdv ct), osl⟩) (h2 : codeIn pg.K cdv qual = true)
    (h3 : ∀ us : List Value, us.length = xs.length → bindArgs (fnOf name qual params body scope dV kV doc pm an cdv ct) ⟨us, []⟩ = pure (xs.zip us)) (h4 : ∀ x ∈ xs, scope.names.lookup x = some .local ∨ scope.names.lookup x = some .cell)
    (h5 : ((cellsFrom 0 scope.names []).map (·.1)).Nodup) (h6 : scope.isCoroutine = false) (h7 : scope.isGenerator = false) (h8 : scope.kind = .function) : FnAt pg f xs body scope :=
  ⟨⟨name, qual, params, dV, kV, doc, pm, an, cdv, ct, oc, od, osl, h1, h2, h3⟩, h4, h5, h6, h7, h8⟩
/-- a def, by its rules -/
theorem fn_run {pg : Pg} {f : Addr} {xs : List Str} {body : List Stmt} {scope : Scope} (D : FnAt pg f xs body scope) {lev : Nat} {qt : Bool} {ns : List Int} {vs : List V} {hp : List O} {X : Value → List O → Prop} {Q : V → List O → Prop} (hl : vs.length = xs.length) (hok : nmsOk scope = true)
    (h : ∀ c, CxIs c pg scope ns lev qt → Ss c (fun d σ => X d σ.hp) body (bindV xs vs fun _ => none) hp (fun fl _ hp' => Q (retV fl) hp')) : CallOK pg (lev + 1) qt ns f vs hp X Q := by
  have h := h _ ⟨rfl⟩
  unfold Ss at h
  exact callOK_of D hl fun fx F hpg hns hlev hqt hsc hL => h fx ⟨F, hpg, hsc, hns, Nat.le_of_eq hlev.symm, hqt, hok⟩ hL


/-- the law, by its rules -/
theorem law_go {pg : Pg} {s₁ : Shared} {law : Str} {f fa a : Addr} {x : Str} {body : List Stmt} {scope : Scope} {vals : List Value} {ns : List Int} {R : Result → Shared → Prop}
    (T : Top pg.p pg.loose pg.mean pg.mg pg.mb s₁.heap) (KX : pg.K.In s₁.heap) (hmg : pg.mg law = some (.ref fa)) (hL : s₁.heap.IsList a vals.toArray) (hI : IntsAre vals ns) (hn : ns.length ≤ 63) (hgl : nsIn pg.K mainGlobals law = some (some (.ref f))) (D : FnAt pg f [x] body scope) (hok : nmsOk scope = true)
    (hR : ∀ s' m', Fr s₁.heap s₁.heap.objs.size s'.heap m' → s'.gens = s₁.gens → s'.os = s₁.os → R (.ok (.ret (.bool true))) s')
    (h : ∀ c, CxIs c pg scope ns 600 true → Ss c X0 body (bindV [x] [.scr] fun _ => none) [] (fun fl _ _ => fl = .ret (.bool true))) :
    codeAny (model pg.prog pg.w) callerA (.call (.ref fa) ⟨[.ref a], []⟩) R s₁ := by
  have h := h _ ⟨rfl⟩
  unfold Ss at h
  exact law_run T KX hgl hmg D hok hL hI hn (fun fx F hL => h fx F hL) hR


theorem lay_ints : ∀ ns : List Int, PyData.canLayAll0 (ns.map .int) = true ∧ PyData.depthAll (ns.map .int) ≤ 1
  | [] => ⟨by simp [PyData.canLayAll0], by simp [PyData.depthAll]⟩
  | n :: r => by
    have := lay_ints r
    simp [PyData.canLayAll0, PyData.depthAll, PyData.canLay0, PyData.depth, this.1] at *
    omega
theorem shaped_ints (ns : List Int) : PySem.SeqAt.shaped (.list (ns.map .int)) = true := by
  have := lay_ints ns
  simp [PySem.SeqAt.shaped, PyData.canLay0, PyData.depth, this.1]
  omega
section
variable {c : Cx} {X : XP} {l : Lo} {hp : List O} {K : KV}
theorem cmp_ints_eq {i j : Nat} {xs ys : List Int} (h1 : hp[i]? = some (.list (xs.map .int))) (h2 : hp[j]? = some (.list (ys.map .int))) (h : K (.bool (decide (xs = ys))) l hp) : Cmp c X .Eq (.ref i) (.ref j) l hp K :=
  cmp_deq (.list h1 (dats_ints hp xs)) (.list h2 (dats_ints hp ys)) (shaped_ints xs) (shaped_ints ys) (by rw [show PyData.eqv (.list (xs.map .int)) (.list (ys.map .int)) = decide (xs = ys) by rw [PyData.eqv]; exact ked_eqvAll xs ys]; exact h)
theorem cmp_ints_ne {i j : Nat} {xs ys : List Int} (h1 : hp[i]? = some (.list (xs.map .int))) (h2 : hp[j]? = some (.list (ys.map .int))) (h : K (.bool (!decide (xs = ys))) l hp) : Cmp c X .NotEq (.ref i) (.ref j) l hp K :=
  cmp_dne (.list h1 (dats_ints hp xs)) (.list h2 (dats_ints hp ys)) (shaped_ints xs) (shaped_ints ys) (by rw [show PyData.eqv (.list (xs.map .int)) (.list (ys.map .int)) = decide (xs = ys) by rw [PyData.eqv]; exact ked_eqvAll xs ys]; exact h)
end
end Mine

set_option autoImplicit false
namespace Mine
open PySem PySem.W PySem.Calls PySem.Spec PyProof.Rows

/-- the number at a place -/
def g (xs : List Int) (i : Int) : Int := xs.getD i.toNat 0
theorem g_get {xs : List Int} {k : Int} (h0 : 0 ≤ k) (h1 : k < xs.length) : (xs.map V.int)[k.toNat]? = some (.int (g xs k)) := by
  unfold g
  have : k.toNat < xs.length := by omega
  simp [this]
theorem g_nat {xs : List Int} {k : Nat} (h : k < xs.length) : xs[k] = g xs k := by
  unfold g
  simp [h]

/-- a value of the plain kinds -/
def Plain (hp : List O) : V → Prop
  | .int _ | .bool _ | .str _ | .none | .tup _ => True
  | .ref j => ∃ ys, hp[j]? = some (.list ys)
  | _ => False

section
variable {c : Cx} {X : XP} {l : Lo} {hp : List O} {K : KV} {p q : Pos} {pg : Pg} {sc : Scope} {ns : List Int} {lev : Nat} {qt : Bool}

theorem sb_int {i : Nat} {xs : List Int} {k : Int} (e : hp[i]? = some (.list (xs.map .int))) (s : Side (0 ≤ k ∧ k < xs.length ∧ xs.length < 2 ^ 62)) (h : K (.int (g xs k)) l hp) : Sub c X (.ref i) (.int k) l hp K :=
  sb_ref e ⟨by have := s.h; omega⟩ (g_get s.h.1 s.h.2.1) h
theorem sb_all {i : Nat} {vs : List V} {k : Int} (e : hp[i]? = some (.list vs)) (s : Side (0 ≤ k ∧ k < vs.length ∧ vs.length < 2 ^ 62)) (h : ∀ v ∈ vs, K v l hp) : Sub c X (.ref i) (.int k) l hp K := by
  have hk : k.toNat < vs.length := by have := s.h; omega
  exact sb_ref e ⟨by have := s.h; omega⟩ (List.getElem?_eq_getElem hk) (h _ (List.getElem_mem hk))
theorem cb_len_int {i : Nat} {xs : List Int} (e : hp[i]? = some (.list (xs.map .int))) (s : Side (xs.length < 2 ^ 62)) (h : K (.int xs.length) l hp) : CB c X "len" [.ref i] l hp K :=
  cb_len_ref e ⟨by have := s.h; rw [List.length_map]; omega⟩ (by rw [List.length_map]; exact h)
theorem ints_of {R : Nat → Int → Prop} : ∀ {vs : List V}, (∀ (j : Nat) (hj : j < vs.length), ∃ x, vs[j] = .int x ∧ R j x) → ∃ ys : List Int, vs = ys.map .int ∧ ∀ (j : Nat) (hj : j < ys.length), R j ys[j] := by
  intro vs
  induction vs generalizing R with
  | nil => intro _; exact ⟨[], rfl, fun j hj => by simp at hj⟩
  | cons v vs ih =>
    intro h
    obtain ⟨x, e, r⟩ := h 0 (by simp)
    obtain ⟨ys, e', r'⟩ := ih (R := fun j => R (j + 1)) fun j hj => h (j + 1) (Nat.succ_lt_succ hj)
    simp at e
    subst e; subst e'
    refine ⟨x :: ys, rfl, fun j hj => ?_⟩
    cases j with
    | zero => exact r
    | succ j => exact r' j (Nat.lt_of_succ_lt_succ hj)
/-- the same, of numbers -/
theorem comp_ints (hc : CxIs c pg sc ns lev qt) {elt t : Expr} {csc : Scope} {its : List V} {need : St → Prop} {K : List O → Prop} (ck : compCk sc csc t = true) (R : Nat → Int → Prop) (hl : its.length ≤ sizeLine) (hneed : ∀ vs : List V, need ⟨l, hp ++ [.list vs]⟩)
    (turn : ∀ (k : Nat) (hk : k < its.length) (vs : List V), vs.length = k → ∃ bs, tgtV t its[k] = some bs ∧ ∀ c', CxIs c' pg (relab csc) ns lev qt → E c' X0 elt (setAll (compLoc csc l) bs) (hp ++ [.list vs]) (fun v _ hp' => hp' = hp ++ [.list vs] ∧ ∃ x, v = .int x ∧ R k x))
    (fin : ∀ ys : List Int, ys.length = its.length → (∀ (j : Nat) (hj : j < ys.length), R j ys[j]) → K (hp ++ [.list (ys.map .int)])) : Comp c elt t [] csc its need l hp K :=
  comp_gen hc ck (fun k v => ∃ x, v = .int x ∧ R k x) hl hneed (fun k hk vs hv _ => turn k hk vs hv) fun vs hv hR => by
    obtain ⟨ys, rfl, r⟩ := ints_of hR
    exact fin ys (by simpa using hv) r
theorem setN_same {l : Lo} {x : Str} {v : V} : setN l x v x = some v := by unfold setN; rw [if_pos rfl]
theorem setN_ne {l : Lo} {a b : String} {w : V} (h : (a == b) = false) : setN l (Str.ofString b) w (Str.ofString a) = l (Str.ofString a) := by
  unfold setN
  rw [if_neg (fun q => by rw [ofString_inj] at q; subst q; simp at h)]
theorem bind_c {xs : List Str} {vs : List V} {x : Str} {v : V} {l : Lo} {y : Str} : bindV (x :: xs) (v :: vs) l y = bindV xs vs (setN l x v) y := rfl
theorem bind_n {l : Lo} {y : Str} : bindV [] [] l y = l y := rfl
theorem all_c {r : List (Str × V)} {x : Str} {v : V} {l : Lo} {y : Str} : setAll l ((x, v) :: r) y = setAll (setN l x v) r y := rfl
theorem all_n {l : Lo} {y : Str} : setAll l [] y = l y := rfl
theorem compLoc_eq {csc : Scope} {l : Lo} {x : Str} (h : csc.names.lookup x = some .free) : compLoc csc l x = l x := by
  unfold compLoc
  rw [if_pos h]
theorem app_get {hp t : List O} {i : Nat} {o : O} (h : hp[i]? = some o) : (hp ++ t)[i]? = some o := prefix_get (List.prefix_append _ _) h
theorem app_new {hp : List O} {o : O} : (hp ++ [o])[hp.length]? = some o := by simp
theorem get_lt {hp : List O} {i : Nat} {o : O} (h : hp[i]? = some o) : i < hp.length := by
  rcases Nat.lt_or_ge i hp.length with q | q
  · exact q
  · rw [List.getElem?_eq_none q] at h; cases h
end
end Mine

set_option autoImplicit false
namespace Mine
/-- b lies below the line from a to c -/
abbrev Bl (f : Int → Int) (a b c : Int) : Prop := (f b - f a) * (c - a) < (f c - f a) * (b - a)

/-! the ridge -/
/-! what hides a hill -/
theorem nbl_trans {f : Int → Int} {a k b p : Int} (h0 : a < k) (h1 : a < b) (h2 : a < p) (x : ¬ Bl f a b k) (y : Bl f a b p) : Bl f a k p := by
  unfold Bl at *
  refine Int.lt_of_mul_lt_mul_right (a := b - a) ?_ (by omega)
  have x' : (f k - f a) * (b - a) ≤ (f b - f a) * (k - a) := by omega
  have e1 := Int.mul_le_mul_of_nonneg_right x' (show 0 ≤ p - a by omega)
  have e2 := Int.mul_lt_mul_of_pos_right y (show 0 < k - a by omega)
  grind
theorem nbl_nbl {f : Int → Int} {a k b p : Int} (h0 : a < k) (h1 : a < b) (h2 : a < p) (x : ¬ Bl f a b k) (y : Bl f a b p) : ¬ Bl f a p k := by
  have z := nbl_trans h0 h1 h2 x y
  unfold Bl at *
  intro q
  grind
/-! what is seen later, earlier -/
def Sees (f : Int → Int) (a b : Int) : Prop := ∀ k, a < k → k < b → Bl f a k b
/-- what is seen from a among the next k places, and the last of it -/
def lat (f : Int → Int) (a : Int) : Nat → List Int
  | 0 => []
  | k + 1 => match (lat f a k).getLast? with
    | none => lat f a k ++ [a + 1 + k]
    | some q => if Bl f a q (a + 1 + k) then lat f a k ++ [a + 1 + k] else lat f a k
theorem lat_ok (f : Int → Int) (a : Int) : ∀ k : Nat, ((lat f a k = [] ∧ k = 0) ∨ ∃ q, (lat f a k).getLast? = some q ∧ a < q ∧ q < a + 1 + k ∧ ∀ j, a < j → j < a + 1 + k → ¬ Bl f a q j)
  | 0 => .inl ⟨rfl, rfl⟩
  | k + 1 => by
    refine .inr ?_
    unfold lat
    rcases lat_ok f a k with ⟨e, rfl⟩ | ⟨q, e, h1, h2, h3⟩
    · rw [e]
      refine ⟨a + 1 + (0 : Nat), by simp, by omega, by omega, fun j j1 j2 => ?_⟩
      have : j = a + 1 + (0 : Nat) := by omega
      subst this
      unfold Bl
      omega
    · rw [e]
      dsimp only
      by_cases z : Bl f a q (a + 1 + k)
      · rw [if_pos z]
        refine ⟨a + 1 + k, by simp, by omega, by omega, fun j j1 j2 => ?_⟩
        rcases Int.lt_or_le j (a + 1 + k) with y | y
        · exact nbl_nbl j1 h1 (by omega) (h3 j j1 y) z
        · have : j = a + 1 + k := by omega
          subst this
          unfold Bl
          omega
      · rw [if_neg z]
        refine ⟨q, e, h1, by omega, fun j j1 j2 => ?_⟩
        rcases Int.lt_or_le j (a + 1 + k) with y | y
        · exact h3 j j1 y
        · have : j = a + 1 + k := by omega
          subst this
          exact z
open Classical in
/-- the places that are seen, by the law -/
noncomputable def duel (f : Int → Int) (a : Int) (k : Nat) : List Int := ((List.range k).map fun (j : Nat) => a + 1 + (j : Int)).filter fun b => decide (Sees f a b)
theorem duel_succ (f : Int → Int) (a : Int) (k : Nat) : duel f a (k + 1) = duel f a k ++ (open Classical in if Sees f a (a + 1 + k) then [a + 1 + (k : Int)] else []) := by
  unfold duel
  rw [List.range_succ, List.map_append, List.filter_append]
  congr 1
  by_cases h : Sees f a (a + 1 + k)
  · simp [h]
  · simp [h]
theorem lat_eq (f : Int → Int) (a : Int) : ∀ k : Nat, lat f a k = duel f a k
  | 0 => rfl
  | k + 1 => by
    rw [duel_succ, ← lat_eq f a k]
    have z := lat_ok f a k
    conv => lhs; unfold lat
    rcases z with ⟨e, rfl⟩ | ⟨q, e, h1, h2, h3⟩
    · rw [e]
      have : Sees f a (a + 1 + (0 : Nat)) := fun k k1 k2 => by omega
      rw [if_pos this]
      simp
    · rw [e]
      dsimp only
      by_cases z : Bl f a q (a + 1 + k)
      · have : Sees f a (a + 1 + k) := fun j j1 j2 => nbl_trans j1 h1 (by omega) (h3 j j1 (by omega)) z
        rw [if_pos z, if_pos this]
      · have : ¬ Sees f a (a + 1 + k) := fun s => z (s q h1 (by omega))
        rw [if_neg z, if_neg this]
        simp

/-- the same, looking back -/
def ear (f : Int → Int) (a : Int) (k : Nat) : List Int := (lat (fun x => f (-x)) (-a) k).map (fun x => -x)
theorem bl_neg {f : Int → Int} {p k a : Int} : Bl (fun x => f (-x)) (-a) (-k) (-p) ↔ Bl f p k a := by
  unfold Bl
  simp only [Int.neg_neg]
  constructor <;> intro h <;> grind
theorem sees_neg {f : Int → Int} {p a : Int} : Sees (fun x => f (-x)) (-a) (-p) ↔ Sees f p a := by
  constructor
  · intro h k k1 k2
    exact bl_neg.mp (h (-k) (by omega) (by omega))
  · intro h k k1 k2
    have := h (-k) (by omega) (by omega)
    have e := bl_neg (f := f) (p := p) (k := -k) (a := a)
    rw [Int.neg_neg] at e
    exact e.mpr this
open Classical in
noncomputable def dueB (f : Int → Int) (a : Int) (n : Nat) : List Int := ((List.range n).map fun (j : Nat) => (j : Int)).filter fun b => decide (b ≠ a ∧ Sees f (min a b) (max a b))
open Classical in
theorem dueB_succ (f : Int → Int) (a : Int) (n : Nat) : dueB f a (n + 1) = dueB f a n ++ (if (n : Int) ≠ a ∧ Sees f (min a n) (max a n) then [(n : Int)] else []) := by
  unfold dueB
  rw [List.range_succ, List.map_append, List.filter_append]
  congr 1
  by_cases h : (n : Int) ≠ a ∧ Sees f (min a n) (max a n)
  · simp [h]
  · rw [if_neg h]
    simp only [List.map_cons, List.map_nil, List.filter_cons, List.filter_nil]
    rw [if_neg (by simpa using h)]
open Classical in
theorem dueB_later (f : Int → Int) (a m : Nat) : dueB f a (a + 1 + m) = dueB f a a ++ duel f a m := by
  induction m with
  | zero =>
    rw [Nat.add_zero, dueB_succ, if_neg (by simp)]
    simp [duel]
  | succ m ih =>
    rw [← Nat.add_assoc, dueB_succ, ih, duel_succ, List.append_assoc]
    congr 2
    have e1 : min (a : Int) ((a + 1 + m : Nat) : Int) = a := by omega
    have e2 : max (a : Int) ((a + 1 + m : Nat) : Int) = a + 1 + m := by omega
    have e3 : ((a + 1 + m : Nat) : Int) = a + 1 + m := by omega
    rw [e1, e2, e3]
    by_cases h : Sees f a (a + 1 + m)
    · rw [if_pos ⟨by omega, h⟩, if_pos h]
    · rw [if_neg (fun x => h x.2), if_neg h]
open Classical in
theorem ear_eq (f : Int → Int) (a : Nat) : (ear f a a).reverse = dueB f a a := by
  have key : ∀ k : Nat, k ≤ a → dueB f a (a - k) ++ (ear f a k).reverse = dueB f a a := by
    intro k
    induction k with
    | zero => intro _; simp [ear, lat]
    | succ k ih =>
      intro hk
      rw [← ih (by omega)]
      have e0 : a - k = (a - (k + 1)) + 1 := by omega
      rw [e0, dueB_succ]
      unfold ear
      rw [lat_eq, lat_eq, duel_succ, List.map_append, List.reverse_append]
      have e4 : ((a - (k + 1) : Nat) : Int) = a - 1 - k := by omega
      have e1 : min (a : Int) ((a - (k + 1) : Nat) : Int) = a - 1 - k := by omega
      have e2 : max (a : Int) ((a - (k + 1) : Nat) : Int) = a := by omega
      have sn := sees_neg (f := f) (p := a - 1 - k) (a := a)
      rw [show -((a : Int) - 1 - k) = -(a : Int) + 1 + k by omega] at sn
      by_cases h : Sees f (a - 1 - k) a
      · rw [if_pos (sn.mpr h), if_pos (by rw [e1, e2]; exact ⟨by omega, h⟩)]
        rw [List.map_singleton, List.reverse_singleton, e4]
        have : -(-(a : Int) + 1 + k) = a - 1 - k := by omega
        rw [this]
        simp
      · rw [if_neg (fun x => h (sn.mp x)), if_neg (by rw [e1, e2]; exact fun x => h x.2)]
        simp
  have := key a (Nat.le_refl _)
  simpa [dueB] using this

theorem view_eq (f : Int → Int) {a n : Nat} (h : a < n) : (ear f a a).reverse ++ lat f a (n - 1 - a) = dueB f a n := by
  rw [ear_eq, lat_eq, ← dueB_later]
  congr 1
  omega

/-! the tower -/
end Mine

set_option autoImplicit false
namespace Mine
open Classical

/-! the fewest hops -/
def Adj (f : Int → Int) (x y : Int) : Prop := y ≠ x ∧ Sees f (min x y) (max x y)
theorem Adj.symm {f : Int → Int} {x y : Int} (h : Adj f x y) : Adj f y x := ⟨fun e => h.1 e.symm, by rw [Int.min_comm, Int.max_comm]; exact h.2⟩
theorem adj_next (f : Int → Int) (x : Int) : Adj f x (x + 1) := ⟨by omega, fun k h1 h2 => by omega⟩
theorem mem_dueB {f : Int → Int} {a : Int} {n : Nat} {y : Int} : y ∈ dueB f a n ↔ (0 ≤ y ∧ y < n) ∧ Adj f a y := by
  unfold dueB Adj
  rw [List.mem_filter, List.mem_map]
  constructor
  · rintro ⟨⟨j, hj, rfl⟩, h⟩
    rw [List.mem_range] at hj
    exact ⟨⟨by omega, by omega⟩, of_decide_eq_true h⟩
  · rintro ⟨⟨h0, h1⟩, h⟩
    exact ⟨⟨y.toNat, List.mem_range.mpr (by omega), by omega⟩, decide_eq_true h⟩
theorem dueB_len (f : Int → Int) (a : Int) (n : Nat) : (dueB f a n).length ≤ n := by
  unfold dueB
  exact Nat.le_trans (List.length_filter_le _ _) (by simp)

structure Hops (f : Int → Int) (n : Nat) (a : Int) (d : Int → Int) : Prop where
  nn : ∀ x : Int, 0 ≤ x → x < n → 0 ≤ d x
  at_ : d a = 0
  pre : ∀ x : Int, 0 ≤ x → x < n → x ≠ a → d x ≠ 0 ∧ ∃ y : Int, (0 ≤ y ∧ y < n) ∧ Adj f x y ∧ d y = d x - 1
  lip : ∀ x y : Int, 0 ≤ x → x < n → 0 ≤ y → y < n → Adj f x y → d y ≤ d x + 1
theorem Hops.le {f : Int → Int} {n : Nat} {a : Int} {d d' : Int → Int} (h : Hops f n a d) (h' : Hops f n a d') : ∀ (m : Nat) (x : Int), 0 ≤ x → x < n → (d' x).toNat = m → d x ≤ d' x := by
  intro m
  induction m with
  | zero =>
    intro x x0 x1 e
    have := h'.nn x x0 x1
    by_cases q : x = a
    · subst q; rw [h.at_, h'.at_]; exact Int.le_refl _
    · exact absurd (by omega : d' x = 0) (h'.pre x x0 x1 q).1
  | succ m ih =>
    intro x x0 x1 e
    by_cases q : x = a
    · subst q; rw [h.at_, h'.at_]; exact Int.le_refl _
    · obtain ⟨_, y, ⟨y0, y1⟩, ay, ey⟩ := h'.pre x x0 x1 q
      have := ih y y0 y1 (by omega)
      have := h.lip y x y0 y1 x0 x1 ay.symm
      omega
theorem Hops.uniq {f : Int → Int} {n : Nat} {a : Int} {d d' : Int → Int} (h : Hops f n a d) (h' : Hops f n a d') (x : Int) (x0 : 0 ≤ x) (x1 : x < n) : d x = d' x := by
  have := h.le h' _ x x0 x1 rfl
  have := h'.le h _ x x0 x1 rfl
  omega

/-- a row of the search is at hand -/
structure Row (f : Int → Int) (n : Nat) (a : Int) (L : Int) (row : List Int) (d : Int → Int) : Prop where
  lv : 0 ≤ L
  rg : ∀ x : Int, 0 ≤ x → x < n → d x = -1 ∨ (0 ≤ d x ∧ d x ≤ L)
  at_ : d a = 0
  pre : ∀ x : Int, 0 ≤ x → x < n → x ≠ a → 0 ≤ d x → d x ≠ 0 ∧ ∃ y : Int, (0 ≤ y ∧ y < n) ∧ Adj f x y ∧ d y = d x - 1
  cl : ∀ x y : Int, 0 ≤ x → x < n → 0 ≤ y → y < n → 0 ≤ d x → d x < L → Adj f x y → 0 ≤ d y ∧ d y ≤ d x + 1
  rws : ∀ x : Int, x ∈ row ↔ (0 ≤ x ∧ x < n) ∧ d x = L
/-- within a row: k places are through, of the next one those of «some» -/
structure Mid (f : Int → Int) (n : Nat) (a : Int) (L : Int) (row : List Int) (k : Nat) (so : List Int) (d : Int → Int) (fresh : List Int) : Prop where
  lv : 0 ≤ L
  rg : ∀ x : Int, 0 ≤ x → x < n → d x = -1 ∨ (0 ≤ d x ∧ d x ≤ L + 1)
  at_ : d a = 0
  pre : ∀ x : Int, 0 ≤ x → x < n → x ≠ a → 0 ≤ d x → d x ≠ 0 ∧ ∃ y : Int, (0 ≤ y ∧ y < n) ∧ Adj f x y ∧ d y = d x - 1
  cl : ∀ x y : Int, 0 ≤ x → x < n → 0 ≤ y → y < n → 0 ≤ d x → d x < L → Adj f x y → 0 ≤ d y ∧ d y ≤ d x + 1
  rws : ∀ x : Int, x ∈ row ↔ (0 ≤ x ∧ x < n) ∧ d x = L
  fr : ∀ x : Int, x ∈ fresh ↔ (0 ≤ x ∧ x < n) ∧ d x = L + 1
  done : ∀ (i : Nat) (hi : i < row.length), i < k → ∀ y : Int, 0 ≤ y → y < n → Adj f row[i] y → 0 ≤ d y
  sm : ∀ y ∈ so, (0 ≤ y ∧ y < n) ∧ 0 ≤ d y
section
variable {f : Int → Int} {n : Nat} {a L : Int} {row fresh so : List Int} {k : Nat} {d : Int → Int}
theorem Row.mid (h : Row f n a L row d) : Mid f n a L row 0 [] d [] where
  lv := h.lv
  rg := fun x x0 x1 => (h.rg x x0 x1).imp id fun ⟨p, q⟩ => ⟨p, by omega⟩
  at_ := h.at_
  pre := h.pre
  cl := h.cl
  rws := h.rws
  fr := fun x => ⟨fun z => (by cases z), fun ⟨⟨x0, x1⟩, e⟩ => (by
    have := h.lv
    rcases h.rg x x0 x1 with q | q <;> omega)⟩
  done := fun i _ hi => by omega
  sm := fun y hy => by cases hy
theorem Mid.next (h : Mid f n a L row k so d fresh) (hk : k < row.length) (hs : ∀ y : Int, 0 ≤ y → y < n → Adj f row[k] y → y ∈ so) : Mid f n a L row (k + 1) [] d fresh where
  lv := h.lv
  rg := h.rg
  at_ := h.at_
  pre := h.pre
  cl := h.cl
  rws := h.rws
  fr := h.fr
  done := fun i hi hk' y y0 y1 ay => by
    by_cases q : i < k
    · exact h.done i hi q y y0 y1 ay
    · have : i = k := by omega
      subst this
      exact (h.sm y (hs y y0 y1 ay)).2
  sm := fun y hy => by cases hy
theorem Mid.skip (h : Mid f n a L row k so d fresh) {y : Int} (y0 : 0 ≤ y) (y1 : y < n) (hy : 0 ≤ d y) : Mid f n a L row k (so ++ [y]) d fresh where
  lv := h.lv
  rg := h.rg
  at_ := h.at_
  pre := h.pre
  cl := h.cl
  rws := h.rws
  fr := h.fr
  done := h.done
  sm := fun z hz => by
    rcases List.mem_append.mp hz with q | q
    · exact h.sm z q
    · rw [List.mem_singleton.mp q]; exact ⟨⟨y0, y1⟩, hy⟩
theorem Mid.take (h : Mid f n a L row k so d fresh) {p y : Int} (hp : p ∈ row) (y0 : 0 ≤ y) (y1 : y < n) (hy : d y < 0) (ay : Adj f p y) {d' : Int → Int} (e1 : d' y = d p + 1) (e2 : ∀ x : Int, 0 ≤ x → x < n → x ≠ y → d' x = d x) (a0 : 0 ≤ a) (a1 : a < n) :
    Mid f n a L row k (so ++ [y]) d' (fresh ++ [y]) := by
  obtain ⟨⟨p0, p1⟩, pe⟩ := (h.rws p).mp hp
  have lv := h.lv
  have at_ := h.at_
  have ya : a ≠ y := fun e => by subst e; omega
  have py : p ≠ y := fun e => by subst e; omega
  have dy : d y = -1 := by rcases h.rg y y0 y1 with q | q <;> omega
  refine ⟨lv, fun x x0 x1 => ?_, by rw [e2 a a0 a1 ya]; exact at_, fun x x0 x1 xa dx => ?_, fun x z x0 x1 z0 z1 dx dl az => ?_, fun x => ?_, fun x => ?_, fun i hi ik z z0 z1 az => ?_, fun z hz => ?_⟩
  · by_cases q : x = y
    · subst q; rw [e1]; omega
    · rw [e2 x x0 x1 q]; exact h.rg x x0 x1
  · by_cases q : x = y
    · subst q
      refine ⟨by omega, p, ⟨p0, p1⟩, ay.symm, ?_⟩
      rw [e2 p p0 p1 py, e1]; omega
    · rw [e2 x x0 x1 q] at dx ⊢
      obtain ⟨h1, z, ⟨z0, z1⟩, az, ez⟩ := h.pre x x0 x1 xa dx
      have zy : z ≠ y := fun e => by subst e; omega
      exact ⟨h1, z, ⟨z0, z1⟩, az, by rw [e2 z z0 z1 zy]; exact ez⟩
  · by_cases q : x = y
    · subst q; omega
    · rw [e2 x x0 x1 q] at dx dl ⊢
      have := h.cl x z x0 x1 z0 z1 dx dl az
      have zy : z ≠ y := fun e => by subst e; omega
      rw [e2 z z0 z1 zy]
      exact this
  · rw [h.rws x]
    constructor
    · rintro ⟨⟨x0, x1⟩, e⟩
      have : x ≠ y := fun q => by subst q; omega
      exact ⟨⟨x0, x1⟩, by rw [e2 x x0 x1 this]; exact e⟩
    · rintro ⟨⟨x0, x1⟩, e⟩
      by_cases q : x = y
      · subst q; omega
      · rw [e2 x x0 x1 q] at e; exact ⟨⟨x0, x1⟩, e⟩
  · rw [List.mem_append, List.mem_singleton, h.fr x]
    constructor
    · rintro (⟨⟨x0, x1⟩, e⟩ | rfl)
      · have : x ≠ y := fun q => by subst q; omega
        exact ⟨⟨x0, x1⟩, by rw [e2 x x0 x1 this]; exact e⟩
      · exact ⟨⟨y0, y1⟩, by omega⟩
    · rintro ⟨⟨x0, x1⟩, e⟩
      by_cases q : x = y
      · exact .inr q
      · rw [e2 x x0 x1 q] at e; exact .inl ⟨⟨x0, x1⟩, e⟩
  · by_cases q : z = y
    · subst q; omega
    · rw [e2 z z0 z1 q]; exact h.done i hi ik z z0 z1 az
  · rcases List.mem_append.mp hz with q | q
    · by_cases q' : z = y
      · subst q'; exact ⟨⟨y0, y1⟩, by omega⟩
      · obtain ⟨⟨z0, z1⟩, dz⟩ := h.sm z q
        exact ⟨⟨z0, z1⟩, by rw [e2 z z0 z1 q']; exact dz⟩
    · rw [List.mem_singleton.mp q]; exact ⟨⟨y0, y1⟩, by omega⟩
theorem Mid.row' (h : Mid f n a L row row.length [] d fresh) : Row f n a (L + 1) fresh d where
  lv := by have := h.lv; omega
  rg := h.rg
  at_ := h.at_
  pre := h.pre
  cl := fun x y x0 x1 y0 y1 dx dl ay => by
    by_cases q : d x < L
    · exact h.cl x y x0 x1 y0 y1 dx q ay
    · have hx := (h.rws x).mpr ⟨⟨x0, x1⟩, by omega⟩
      obtain ⟨i, hi, e⟩ := List.getElem_of_mem hx
      have := h.done i hi hi y y0 y1 (by rw [e]; exact ay)
      rcases h.rg y y0 y1 with q' | q' <;> omega
  rws := h.fr
theorem Row.hops (h : Row f n a L [] d) (a0 : 0 ≤ a) (a1 : a < n) : Hops f n a d := by
  have no : ∀ x : Int, 0 ≤ x → x < n → 0 ≤ d x → d x < L := fun x x0 x1 dx => by
    have := mt (h.rws x).mpr (by simp)
    rcases h.rg x x0 x1 with q | q
    · omega
    · have : d x ≠ L := fun e => this ⟨⟨x0, x1⟩, e⟩
      omega
  have up : ∀ m : Nat, a + m < n → 0 ≤ d (a + m) := by
    intro m
    induction m with
    | zero => intro _; rw [show a + ((0 : Nat) : Int) = a by omega, h.at_]; exact Int.le_refl _
    | succ m ih =>
      intro hm
      have dm := ih (by omega)
      exact (h.cl (a + m) (a + (m + 1 : Nat)) (by omega) (by omega) (by omega) (by omega) dm (no _ (by omega) (by omega) dm) (by rw [show a + ((m + 1 : Nat) : Int) = a + m + 1 by omega]; exact adj_next f _)).1
  have dn : ∀ m : Nat, 0 ≤ a - m → 0 ≤ d (a - m) := by
    intro m
    induction m with
    | zero => intro _; rw [show a - ((0 : Nat) : Int) = a by omega, h.at_]; exact Int.le_refl _
    | succ m ih =>
      intro hm
      have dm := ih (by omega)
      refine (h.cl (a - m) (a - (m + 1 : Nat)) (by omega) (by omega) (by omega) (by omega) dm (no _ (by omega) (by omega) dm) ?_).1
      have := (adj_next f (a - (m + 1 : Nat))).symm
      rw [show a - ((m + 1 : Nat) : Int) + 1 = a - m by omega] at this
      exact this
  have nn : ∀ x : Int, 0 ≤ x → x < n → 0 ≤ d x := fun x x0 x1 => by
    by_cases q : a ≤ x
    · have := up (x - a).toNat (by omega)
      rw [show a + ((x - a).toNat : Int) = x by omega] at this
      exact this
    · have := dn (a - x).toNat (by omega)
      rw [show a - ((a - x).toNat : Int) = x by omega] at this
      exact this
  exact ⟨nn, h.at_, fun x x0 x1 q => h.pre x x0 x1 q (nn x x0 x1), fun x y x0 x1 y0 y1 ay => (h.cl x y x0 x1 y0 y1 (nn x x0 x1) (no x x0 x1 (nn x x0 x1)) ay).2⟩
theorem Row.first (a0 : 0 ≤ a) (a1 : a < n) (h0 : d a = 0) (h1 : ∀ x : Int, 0 ≤ x → x < n → x ≠ a → d x = -1) : Row f n a 0 [a] d where
  lv := Int.le_refl _
  rg := fun x x0 x1 => by
    by_cases q : x = a
    · subst q; exact .inr (by omega)
    · exact .inl (h1 x x0 x1 q)
  at_ := h0
  pre := fun x x0 x1 q dx => by have := h1 x x0 x1 q; omega
  cl := fun x y x0 x1 y0 y1 dx dl ay => by omega
  rws := fun x => by
    rw [List.mem_singleton]
    constructor
    · rintro rfl; exact ⟨⟨a0, a1⟩, h0⟩
    · rintro ⟨⟨x0, x1⟩, e⟩
      by_cases q : x = a
      · exact q
      · have := h1 x x0 x1 q; omega
end
theorem line_adj {f : Int → Int} {n : Nat} {t c : Int} (hf : ∀ x : Int, 0 ≤ x → x < n → f x = t * x + c) {x y : Int} (x0 : 0 ≤ x) (x1 : x < n) (y0 : 0 ≤ y) (y1 : y < n) (h : Adj f x y) : y = x + 1 ∨ y = x - 1 := by
  obtain ⟨ne, s⟩ := h
  by_cases q : min x y + 1 < max x y
  · have b := s (min x y + 1) (by omega) q
    unfold Bl at b
    rw [hf _ (by omega) (by omega), hf _ (by omega) (by omega), hf (max x y) (by omega) (by omega)] at b
    generalize min x y = lo at b
    generalize max x y = hi at b
    have e : (t * (lo + 1) + c - (t * lo + c)) * (hi - lo) = (t * hi + c - (t * lo + c)) * (lo + 1 - lo) := by
      rw [Int.mul_add]
      rw [show t * lo + t * 1 + c - (t * lo + c) = t by omega, show lo + 1 - lo = 1 by omega, Int.mul_sub]
      omega
    omega
  · omega
def dis (x : Int) : Int := if x < 0 then -x else x
theorem line_hops {f : Int → Int} {n : Nat} {t c : Int} (hf : ∀ x : Int, 0 ≤ x → x < n → f x = t * x + c) {a : Int} (a0 : 0 ≤ a) (a1 : a < n) : Hops f n a fun x => dis (x - a) where
  nn := fun x _ _ => by simp only [dis]; split <;> omega
  at_ := by simp [dis]
  pre := fun x x0 x1 q => by
    refine ⟨by simp only [dis]; split <;> omega, ?_⟩
    by_cases z : x < a
    · exact ⟨x + 1, ⟨by omega, by omega⟩, adj_next f x, by simp only [dis]; split <;> split <;> omega⟩
    · refine ⟨x - 1, ⟨by omega, by omega⟩, ?_, by simp only [dis]; split <;> split <;> omega⟩
      have := (adj_next f (x - 1)).symm
      rw [show x - 1 + 1 = x by omega] at this
      exact this
  lip := fun x y x0 x1 y0 y1 ay => by
    simp only [dis]
    rcases line_adj hf x0 x1 y0 y1 ay with rfl | rfl <;> split <;> split <;> omega
/-- how many are yet unseen -/
def neg (xs : List Int) : Nat := xs.countP fun x => decide (x < 0)
theorem neg_set {xs : List Int} {k : Nat} {v : Int} (hk : k < xs.length) (h : xs[k] < 0) (hv : 0 ≤ v) : neg (xs.set k v) + 1 = neg xs := by
  unfold neg
  rw [List.countP_set hk]
  have : decide (xs[k] < 0) = true := decide_eq_true h
  have h2 : decide (v < 0) = false := decide_eq_false (by omega)
  have h3 : 0 < xs.countP fun x => decide (x < 0) := List.countP_pos_iff.mpr ⟨xs[k], List.getElem_mem hk, this⟩
  simp only [this, h2, if_true]
  simp
  omega
end Mine

set_option autoImplicit false
namespace Mine
open PySem PySem.W

def Keep (hp hp' : List O) : Prop := ∀ (q : Nat) (o : O), hp[q]? = some o → hp'[q]? = some o
theorem Keep.refl {hp : List O} : Keep hp hp := fun _ _ h => h
theorem Keep.app {hp hp' t : List O} (h : Keep hp hp') : Keep hp (hp' ++ t) := fun q o e => app_get (h q o e)
theorem set_get {hp : List O} {i j : Nat} {o o' : O} (h : hp[j]? = some o) (ne : i ≠ j) : (hp.set i o')[j]? = some o := by rw [List.getElem?_set_ne ne]; exact h
theorem set_at {hp : List O} {i : Nat} {o o' : O} (h : hp[i]? = some o) : (hp.set i o')[i]? = some o' := by
  rw [List.getElem?_set_self (get_lt h)]
theorem Keep.set {hp hp' : List O} {i : Nat} {o : O} (h : Keep hp hp') (hi : hp.length ≤ i) : Keep hp (hp'.set i o) := fun q o' e => set_get (h q o' e) (by have := get_lt e; omega)
theorem g_set {xs : List Int} {k : Int} {v : Int} (k0 : 0 ≤ k) (k1 : k < xs.length) : g (xs.set k.toNat v) k = v := by
  unfold g
  simp [List.getD]
  rw [List.getElem?_set_self (by omega)]
  rfl
theorem g_set_ne {xs : List Int} {k x : Int} {v : Int} (k0 : 0 ≤ k) (x0 : 0 ≤ x) (ne : x ≠ k) : g (xs.set k.toNat v) x = g xs x := by
  unfold g
  simp only [List.getD]
  rw [List.getElem?_set_ne (by omega)]
theorem reps (n : Int) (v : Int) : (List.replicate n.toNat [V.int v]).flatten = (List.replicate n.toNat v).map V.int := by simp
end Mine

set_option autoImplicit false
namespace Mine
open Classical

/-! the way of the fewest hops -/
theorem Hops.near {f : Int → Int} {n : Nat} {a : Int} {d : Int → Int} (h : Hops f n a d) (a0 : 0 ≤ a) (a1 : a < n) (x : Int) (x0 : 0 ≤ x) (x1 : x < n) : d x < n := by
  have up : ∀ m : Nat, a + m < n → d (a + m) ≤ m := by
    intro m
    induction m with
    | zero => intro _; rw [show a + ((0 : Nat) : Int) = a by omega, h.at_]; exact Int.le_refl _
    | succ m ih =>
      intro hm
      have := ih (by omega)
      have := h.lip (a + m) (a + (m + 1 : Nat)) (by omega) (by omega) (by omega) (by omega) (by rw [show a + ((m + 1 : Nat) : Int) = a + m + 1 by omega]; exact adj_next f _)
      omega
  have dn : ∀ m : Nat, 0 ≤ a - m → d (a - m) ≤ m := by
    intro m
    induction m with
    | zero => intro _; rw [show a - ((0 : Nat) : Int) = a by omega, h.at_]; exact Int.le_refl _
    | succ m ih =>
      intro hm
      have := ih (by omega)
      have ad := (adj_next f (a - (m + 1 : Nat))).symm
      rw [show a - ((m + 1 : Nat) : Int) + 1 = a - m by omega] at ad
      have := h.lip (a - m) (a - (m + 1 : Nat)) (by omega) (by omega) (by omega) (by omega) ad
      omega
  by_cases q : a ≤ x
  · have := up (x - a).toNat (by omega)
    rw [show a + ((x - a).toNat : Int) = x by omega] at this
    omega
  · have := dn (a - x).toNat (by omega)
    rw [show a - ((a - x).toNat : Int) = x by omega] at this
    omega

noncomputable def hd (f : Int → Int) (n : Nat) (b : Int) : Int → Int := if h : ∃ d, Hops f n b d then h.choose else fun _ => 0
theorem hd_ok {f : Int → Int} {n : Nat} {b : Int} {d : Int → Int} (h : Hops f n b d) : Hops f n b (hd f n b) := by
  have e : ∃ d, Hops f n b d := ⟨d, h⟩
  unfold hd
  rw [dif_pos e]
  exact e.choose_spec
theorem hd_eq {f : Int → Int} {n : Nat} {b : Int} {d : Int → Int} (h : Hops f n b d) (x : Int) (x0 : 0 ≤ x) (x1 : x < n) : d x = hd f n b x := h.uniq (hd_ok h) x x0 x1

noncomputable def nxl (f : Int → Int) (n : Nat) (b x : Int) : List Int := (dueB f x n).filter fun y => decide (hd f n b y = hd f n b x - 1)
noncomputable def nx (f : Int → Int) (n : Nat) (b x : Int) : Int := (nxl f n b x).headD 0
def itr (h : Int → Int) (a : Int) : Nat → Int
  | 0 => a
  | k + 1 => h (itr h a k)
def trail (h : Int → Int) (a : Int) (k : Nat) : List Int := (List.range (k + 1)).map fun j => itr h a j
theorem trail_succ (h : Int → Int) (a : Int) (k : Nat) : trail h a (k + 1) = trail h a k ++ [h (itr h a k)] := by
  unfold trail
  rw [List.range_succ, List.map_append]
  rfl
theorem trail_len (h : Int → Int) (a : Int) (k : Nat) : (trail h a k).length = k + 1 := by simp [trail]
theorem trail_get (h : Int → Int) (a : Int) (k : Nat) : ((trail h a k).map V.int)[k]? = some (.int (itr h a k)) := by simp [trail]
theorem mem_nxl {f : Int → Int} {n : Nat} {b x y : Int} : y ∈ nxl f n b x ↔ ((0 ≤ y ∧ y < n) ∧ Adj f x y) ∧ hd f n b y = hd f n b x - 1 := by
  unfold nxl
  rw [List.mem_filter, mem_dueB]
  exact ⟨fun ⟨h1, h2⟩ => ⟨h1, of_decide_eq_true h2⟩, fun ⟨h1, h2⟩ => ⟨h1, decide_eq_true h2⟩⟩
theorem nx_mem {f : Int → Int} {n : Nat} {b x : Int} (h : Hops f n b (hd f n b)) (x0 : 0 ≤ x) (x1 : x < n) (ne : x ≠ b) : (nxl f n b x)[0]? = some (nx f n b x) ∧ nx f n b x ∈ nxl f n b x := by
  obtain ⟨_, y, yr, ya, ye⟩ := h.pre x x0 x1 ne
  have hm : y ∈ nxl f n b x := mem_nxl.mpr ⟨⟨yr, ya⟩, ye⟩
  unfold nx
  cases e : nxl f n b x with
  | nil => rw [e] at hm; cases hm
  | cons z t => exact ⟨rfl, .head _⟩
theorem dueB_sorted (f : Int → Int) (a : Int) (n : Nat) : (dueB f a n).Pairwise (· < ·) := by
  unfold dueB
  refine List.Pairwise.filter _ ?_
  rw [List.pairwise_map]
  exact List.pairwise_lt_range.imp fun h => by omega
theorem nx_min {f : Int → Int} {n : Nat} {b x M : Int} (hM : M ∈ nxl f n b x) (hl : ∀ y ∈ nxl f n b x, M ≤ y) : M = nx f n b x := by
  have hs : (nxl f n b x).Pairwise (· < ·) := (dueB_sorted f x n).filter _
  unfold nx
  cases e : nxl f n b x with
  | nil => rw [e] at hM; cases hM
  | cons z t =>
    rw [e] at hM hl hs
    have h1 := hl z (.head _)
    rw [List.pairwise_cons] at hs
    rcases List.mem_cons.mp hM with q | q
    · exact q
    · have := hs.1 M q
      omega
/-- k steps are done -/
structure Trl (f : Int → Int) (n : Nat) (b a : Int) (k : Nat) : Prop where
  i0 : 0 ≤ itr (nx f n b) a k
  i1 : itr (nx f n b) a k < n
  hk : hd f n b (itr (nx f n b) a k) = hd f n b a - k
theorem Trl.zero {f : Int → Int} {n : Nat} {b a : Int} (a0 : 0 ≤ a) (a1 : a < n) : Trl f n b a 0 := ⟨a0, a1, by show hd f n b a = _; omega⟩
theorem Trl.succ {f : Int → Int} {n : Nat} {b a : Int} {k : Nat} (h : Hops f n b (hd f n b)) (t : Trl f n b a k) (ne : itr (nx f n b) a k ≠ b) : Trl f n b a (k + 1) := by
  have hm := mem_nxl.mp (nx_mem h t.i0 t.i1 ne).2
  have := t.hk
  exact ⟨hm.1.1.1, hm.1.1.2, by show hd f n b (nx f n b _) = _; omega⟩
theorem Trl.fin {f : Int → Int} {n : Nat} {b a : Int} {k : Nat} (h : Hops f n b (hd f n b)) (t : Trl f n b a k) (e : itr (nx f n b) a k = b) : (hd f n b a).toNat = k := by
  have := t.hk
  rw [e, h.at_] at this
  omega

/-! the rounds of the other reckoning -/
def rv (d : Int → Int) (n : Nat) (m x : Int) : Int := if d x ≤ m then d x else n
def Rnd (d : Int → Int) (n : Nat) (m h : Int) (e : Int → Int) : Prop := ∀ x : Int, 0 ≤ x → x < n → e x = if x < h then rv d n (m + 1) x else rv d n m x
section
variable {f d e : Int → Int} {n : Nat} {b m h : Int}
theorem Rnd.keep1 (H : Hops f n b d) (dn : ∀ x : Int, 0 ≤ x → x < n → d x < n) (r : Rnd d n m h e) (h0 : 0 ≤ h) (h1 : h < n) (c : ¬ m + 1 < e h) : Rnd d n m (h + 1) e := by
  intro x x0 x1
  have rx := r x x0 x1
  by_cases q : x = h
  · subst q
    rw [if_neg (by omega)] at rx
    rw [if_pos (by omega), rx]
    rw [rx] at c
    have := dn x x0 x1
    unfold rv at *
    split <;> split <;> first | rfl | omega | (split at c <;> omega)
  · rw [rx]
    by_cases z : x < h
    · rw [if_pos z, if_pos (by omega)]
    · rw [if_neg z, if_neg (by omega)]
theorem Rnd.val (r : Rnd d n m h e) (m1 : m < n) {x : Int} (x0 : 0 ≤ x) (x1 : x < n) : e x = m ↔ d x = m := by
  rw [r x x0 x1]
  unfold rv
  split <;> split <;> constructor <;> intro q <;> omega
theorem Rnd.keep2 (H : Hops f n b d) (m0 : 0 ≤ m) (m1 : m < n) (r : Rnd d n m h e) (h0 : 0 ≤ h) (h1 : h < n) (c : ¬ ∃ k ∈ dueB f h n, e k = m) : Rnd d n m (h + 1) e := by
  intro x x0 x1
  have rx := r x x0 x1
  by_cases q : x = h
  · subst q
    rw [if_neg (by omega)] at rx
    rw [if_pos (by omega), rx]
    have : d x ≠ m + 1 := by
      intro e1
      by_cases xb : x = b
      · subst xb; have := H.at_; omega
      · obtain ⟨_, y, ⟨y0, y1⟩, ya, ye⟩ := H.pre x x0 x1 xb
        exact c ⟨y, mem_dueB.mpr ⟨⟨y0, y1⟩, ya⟩, (r.val m1 y0 y1).mpr (by omega)⟩
    unfold rv
    split <;> split <;> first | rfl | omega
  · rw [rx]
    by_cases z : x < h
    · rw [if_pos z, if_pos (by omega)]
    · rw [if_neg z, if_neg (by omega)]
theorem Rnd.set (H : Hops f n b d) (m1 : m < n) (r : Rnd d n m h e) (h0 : 0 ≤ h) (h1 : h < n) (c : m + 1 < e h) (c2 : ∃ k ∈ dueB f h n, e k = m) {e' : Int → Int} (eh : e' h = m + 1) (ex : ∀ x : Int, 0 ≤ x → x < n → x ≠ h → e' x = e x) : Rnd d n m (h + 1) e' := by
  obtain ⟨k, hk, ek⟩ := c2
  obtain ⟨⟨k0, k1⟩, ka⟩ := mem_dueB.mp hk
  have dk := (r.val m1 k0 k1).mp ek
  have := H.lip k h k0 k1 h0 h1 ka.symm
  have rh := r h h0 h1
  rw [if_neg (by omega)] at rh
  intro x x0 x1
  by_cases q : x = h
  · subst q
    rw [if_pos (by omega), eh]
    rw [rh] at c
    unfold rv at *
    split at c
    · omega
    · rw [if_pos (by omega)]; omega
  · rw [ex x x0 x1 q, r x x0 x1]
    by_cases z : x < h
    · rw [if_pos z, if_pos (by omega)]
    · rw [if_neg z, if_neg (by omega)]
theorem Rnd.next (r : Rnd d n m n e) : Rnd d n (m + 1) 0 e := by
  intro x x0 x1
  rw [r x x0 x1, if_pos x1, if_neg (by omega)]
theorem Rnd.fin (dn : ∀ x : Int, 0 ≤ x → x < n → d x < n) (r : Rnd d n n 0 e) (x : Int) (x0 : 0 ≤ x) (x1 : x < n) : e x = d x := by
  have := dn x x0 x1
  rw [r x x0 x1, if_neg (by omega)]
  unfold rv
  rw [if_pos (by omega)]
theorem Rnd.zero (H : Hops f n b d) (b0 : 0 ≤ b) (b1 : b < n) (eb : e b = 0) (ex : ∀ x : Int, 0 ≤ x → x < n → x ≠ b → e x = n) : Rnd d n 0 0 e := by
  intro x x0 x1
  rw [if_neg (by omega)]
  unfold rv
  by_cases q : x = b
  · subst q; rw [eb, H.at_]; rfl
  · rw [ex x x0 x1 q, if_neg]
    have := H.nn x x0 x1
    have := (H.pre x x0 x1 q).1
    omega
end
/-! on a line -/
theorem line_nx {f : Int → Int} {n : Nat} {t c : Int} (hf : ∀ x : Int, 0 ≤ x → x < n → f x = t * x + c) {b : Int} (b0 : 0 ≤ b) (b1 : b < n) {x : Int} (x0 : 0 ≤ x) (x1 : x < n) (ne : x ≠ b) : nx f n b x = if x < b then x + 1 else x - 1 := by
  have lh := line_hops hf b0 b1
  have hm := mem_nxl.mp (nx_mem (hd_ok lh) x0 x1 ne).2
  obtain ⟨⟨⟨y0, y1⟩, ya⟩, ye⟩ := hm
  rw [← hd_eq lh _ y0 y1, ← hd_eq lh _ x0 x1] at ye
  have := line_adj hf x0 x1 y0 y1 ya
  generalize nx f n b x = y at *
  unfold dis at ye
  split <;> (rcases this with rfl | rfl <;> first | rfl | (split at ye <;> split at ye <;> omega))
theorem line_up {f : Int → Int} {n : Nat} {t c : Int} (hf : ∀ x : Int, 0 ≤ x → x < n → f x = t * x + c) {a b : Int} (a0 : 0 ≤ a) (b1 : b < n) (ab : a < b) : ∀ k : Nat, a + k ≤ b → itr (nx f n b) a k = a + k
  | 0, _ => by show a = _; omega
  | k + 1, h => by
    have ih := line_up hf a0 b1 ab k (by omega)
    show nx f n b (itr (nx f n b) a k) = _
    rw [ih, line_nx hf (by omega) b1 (by omega) (by omega) (by omega), if_pos (by omega)]
    omega
theorem line_down {f : Int → Int} {n : Nat} {t c : Int} (hf : ∀ x : Int, 0 ≤ x → x < n → f x = t * x + c) {a b : Int} (a1 : a < n) (b0 : 0 ≤ b) (ab : b ≤ a) : ∀ k : Nat, b ≤ a - k → itr (nx f n b) a k = a - k
  | 0, _ => by show a = _; omega
  | k + 1, h => by
    have ih := line_down hf a1 b0 ab k (by omega)
    show nx f n b (itr (nx f n b) a k) = _
    rw [ih, line_nx hf b0 (by omega) (by omega) (by omega) (by omega), if_neg (by omega)]
    omega
end Mine

set_option autoImplicit false
namespace Mine
open PySem PySem.W PySem.Calls PySem.Spec PyProof.Rows
section
variable {c : Cx} {X : XP} {l : Lo} {hp : List O} {pg : Pg} {sc : Scope} {ns : List Int} {lev : Nat} {qt : Bool}
/-- a comprehension, by what holds after each turn -/
theorem comp_inv (hc : CxIs c pg sc ns lev qt) {elt t : Expr} {csc : Scope} {its : List V} {need : St → Prop} {K : List O → Prop} (ck : compCk sc csc t = true) (J : Nat → List O → Prop) (h0 : J 0 (hp ++ [.list []])) (hl : its.length ≤ sizeLine) (hneed : ∀ k hp', J k hp' → need ⟨l, hp'⟩)
    (turn : ∀ (k : Nat) (hk : k < its.length) hp', J k hp' → ∃ bs, tgtV t its[k] = some bs ∧ ∀ c', CxIs c' pg (relab csc) ns lev qt → E c' X0 elt (setAll (compLoc csc l) bs) hp' (fun v _ hp₂ => ∃ acc, hp₂[hp.length]? = some (.list acc) ∧ acc.length ≤ k ∧ J (k + 1) (hp₂.set hp.length (.list (acc ++ [v])))))
    (fin : ∀ hp', J its.length hp' → K hp') : Comp c elt t [] csc its need l hp K := by
  obtain ⟨rfl⟩ := hc
  unfold compCk at ck
  simp only [Bool.and_eq_true] at ck
  unfold Comp
  refine ⟨J, fun fx F => ⟨h0, hneed, hl, ?_⟩, fin⟩
  intro k hp' hk hJ
  obtain ⟨bs, e, x⟩ := turn k hk hp' hJ
  have co := compOk_of F.sc ck.1.1
  refine ⟨bs, e, fun b hb => by simpa using tgt_ok ck.2 e b hb, fun fc allc e1 e2 e3 e5 e4 => evTs_nil ?_⟩
  have x := x _ ⟨rfl⟩
  unfold E at x
  exact x fc ⟨allc, e1.trans F.pg, e4.trans (relabel_eq co F.all.ok.kind), e2.trans F.ns, by rw [e3]; exact F.lev, fun z => e5.trans (F.qt z), nms_relab ck.1.2⟩
/-- a comprehension that picks -/
theorem comp_filt (hc : CxIs c pg sc ns lev qt) {elt t q : Expr} {csc : Scope} {xs : List Int} {need : St → Prop} {K : List O → Prop} (ck : compCk sc csc t = true) (P : Int → Bool) (hl : (xs.map V.int).length ≤ sizeLine) (hneed : ∀ vs : List V, need ⟨l, hp ++ [.list vs]⟩)
    (turn : ∀ y ∈ xs, ∀ vs : List V, ∃ bs, tgtV t (.int y) = some bs ∧ ∀ c', CxIs c' pg (relab csc) ns lev qt → B c' X0 q (setAll (compLoc csc l) bs) (hp ++ [.list vs]) (fun b l' hp' => b = P y ∧ hp' = hp ++ [.list vs] ∧ E c' X0 elt l' (hp ++ [.list vs]) (fun v _ hp₂ => v = .int y ∧ hp₂ = hp ++ [.list vs])))
    (fin : K (hp ++ [.list ((xs.filter P).map .int)])) : Comp c elt t [q] csc (xs.map .int) need l hp K := by
  obtain ⟨rfl⟩ := hc
  unfold compCk at ck
  simp only [Bool.and_eq_true] at ck
  unfold Comp
  refine ⟨fun k hp' => hp' = hp ++ [.list (((xs.take k).filter P).map .int)], fun fx F => ⟨rfl, fun k hp' e => e ▸ hneed _, hl, ?_⟩, fun hp' e => by rw [e, List.length_map, List.take_length]; exact fin⟩
  rintro k hp' hk rfl
  have hk' : k < xs.length := by simpa using hk
  rw [List.getElem_map]
  have tk := List.take_add_one (l := xs) (i := k)
  rw [List.getElem?_eq_getElem hk'] at tk
  obtain ⟨bs, e, x⟩ := turn xs[k] (List.getElem_mem hk') (((xs.take k).filter P).map .int)
  have co := compOk_of F.sc ck.1.1
  refine ⟨bs, e, fun b hb => by simpa using tgt_ok ck.2 e b hb, fun fc allc e1 e2 e3 e5 e4 => evTs_one ?_⟩
  have x := x _ ⟨rfl⟩
  have Fc : FxAt ⟨pg, relab csc, ns, lev, qt⟩ fc := ⟨allc, e1.trans F.pg, e4.trans (relabel_eq co F.all.ok.kind), e2.trans F.ns, by rw [e3]; exact F.lev, fun z => e5.trans (F.qt z), nms_relab ck.1.2⟩
  unfold B E at x
  refine (x fc Fc).mono fun b σ y => ?_
  obtain ⟨σl, σh⟩ := σ
  obtain ⟨eb, eh, y⟩ := y
  have fe : (xs.take (k + 1)).filter P = (xs.take k).filter P ++ (if P xs[k] = true then [xs[k]] else []) := by
    rw [tk, Option.toList_some, List.filter_append]
    simp only [List.filter_cons, List.filter_nil]
  cases b with
  | false =>
    rw [← eb, if_neg (by decide), List.append_nil] at fe
    dsimp only at eh ⊢
    rw [fe, eh]
    rfl
  | true =>
    rw [← eb, if_pos rfl] at fe
    dsimp only at eh ⊢
    rw [if_pos rfl]
    subst eh
    refine (y fc Fc).mono fun v σ₂ ⟨ev, e2⟩ => ?_
    subst ev
    refine ⟨((xs.take k).filter P).map .int, by rw [e2]; simp, ?_, ?_⟩
    · rw [List.length_map]
      exact Nat.le_trans (List.length_filter_le _ _) (by rw [List.length_take]; omega)
    · rw [e2, fe]
      simp
end
end Mine

set_option autoImplicit false
namespace Mine
open Classical

/-! the pairs that see each other -/
/-! a line, a curve -/
end Mine

set_option autoImplicit false
namespace Mine
open Classical

/-! a land tilted, stretched, turned -/
end Mine

set_option autoImplicit false
namespace Mine
open Classical

/-! the fewest hops are there -/
theorem least {P : Nat → Prop} : ∀ k, P k → ∃ m, P m ∧ ∀ j, j < m → ¬ P j := by
  intro k
  induction k using Nat.strongRecOn with
  | ind k ih =>
    intro h
    by_cases q : ∃ j, j < k ∧ P j
    · obtain ⟨j, h1, h2⟩ := q
      exact ih j h1 h2
    · exact ⟨k, h, fun j h1 h2 => q ⟨j, h1, h2⟩⟩
def Pth (f : Int → Int) (n : Nat) (b : Int) : Nat → Int → Prop
  | 0, x => x = b
  | k + 1, x => ∃ y : Int, (0 ≤ y ∧ y < n) ∧ Adj f x y ∧ Pth f n b k y
theorem pth_all (f : Int → Int) (n : Nat) {b : Int} (b0 : 0 ≤ b) (b1 : b < n) : ∀ (k : Nat) (x : Int), 0 ≤ x → x < n → (x - b).natAbs = k → Pth f n b k x
  | 0, x, _, _, h => by show x = b; omega
  | k + 1, x, x0, x1, h => by
    rcases Int.lt_or_le x b with q | q
    · exact ⟨x + 1, ⟨by omega, by omega⟩, adj_next f x, pth_all f n b0 b1 k (x + 1) (by omega) (by omega) (by omega)⟩
    · have := (adj_next f (x - 1)).symm
      rw [show x - 1 + 1 = x by omega] at this
      exact ⟨x - 1, ⟨by omega, by omega⟩, this, pth_all f n b0 b1 k (x - 1) (by omega) (by omega) (by omega)⟩
theorem pth_least (f : Int → Int) (n : Nat) {b : Int} (b0 : 0 ≤ b) (b1 : b < n) (x : Int) (x0 : 0 ≤ x) (x1 : x < n) : ∃ m, Pth f n b m x ∧ ∀ j, j < m → ¬ Pth f n b j x := least _ (pth_all f n b0 b1 _ x x0 x1 rfl)
theorem hops_are (f : Int → Int) (n : Nat) {b : Int} (b0 : 0 ≤ b) (b1 : b < n) : ∃ d, Hops f n b d := by
  let d : Int → Int := fun x => if h : 0 ≤ x ∧ x < n then ((pth_least f n b0 b1 x h.1 h.2).choose : Int) else 0
  have dx : ∀ x : Int, 0 ≤ x → x < n → ∃ m : Nat, d x = m ∧ Pth f n b m x ∧ ∀ j, j < m → ¬ Pth f n b j x := by
    intro x x0 x1
    refine ⟨(pth_least f n b0 b1 x x0 x1).choose, ?_, (pth_least f n b0 b1 x x0 x1).choose_spec⟩
    show (if h : 0 ≤ x ∧ x < n then ((pth_least f n b0 b1 x h.1 h.2).choose : Int) else 0) = _
    rw [dif_pos ⟨x0, x1⟩]
  refine ⟨d, ⟨fun x x0 x1 => ?_, ?_, fun x x0 x1 ne => ?_, fun x y x0 x1 y0 y1 a => ?_⟩⟩
  · obtain ⟨m, e, _⟩ := dx x x0 x1
    omega
  · obtain ⟨m, e, _, h⟩ := dx b b0 b1
    rcases Nat.eq_zero_or_pos m with z | z
    · omega
    · exact absurd rfl (h 0 z)
  · obtain ⟨m, e, p, h⟩ := dx x x0 x1
    cases m with
    | zero => exact absurd p ne
    | succ k =>
      refine ⟨by omega, ?_⟩
      obtain ⟨y, ⟨y0, y1⟩, a, p'⟩ := p
      obtain ⟨m', e', q', h'⟩ := dx y y0 y1
      refine ⟨y, ⟨y0, y1⟩, a, ?_⟩
      rcases Nat.lt_trichotomy m' k with z | z | z
      · exact absurd ⟨y, ⟨y0, y1⟩, a, q'⟩ (h (m' + 1) (by omega))
      · omega
      · exact absurd p' (h' k z)
  · obtain ⟨m, e, p, _⟩ := dx x x0 x1
    obtain ⟨m', e', _, h'⟩ := dx y y0 y1
    rcases Nat.lt_or_ge (m + 1) m' with z | z
    · exact absurd ⟨x, ⟨x0, x1⟩, a.symm, p⟩ (h' (m + 1) z)
    · omega
end Mine

set_option autoImplicit false
namespace Mine
open PySem PySem.W PySem.Calls PySem.Spec PyProof.Rows

/-! a chain of three comparisons; pairs in order -/
section
variable {fx : Fx} {X : XP} {σ : St} {W : Wd} {s : Shared}
end
section
variable {c : Cx} {X : XP} {l : Lo} {hp : List O} {K : KV} {p : Pos}
end
end Mine

set_option autoImplicit false
namespace Mine
open PySem PySem.W PySem.Calls PySem.Spec PyProof.Rows

/-! dicts whose keys are tuples of numbers -/
section
variable {fx : Fx} {X : XP} {σ : St} {W : Wd} {s : Shared}
end
section
variable {c : Cx} {X : XP} {l : Lo} {hp : List O} {K : KV} {p : Pos}
end
end Mine

set_option autoImplicit false
namespace Mine
open PySem PySem.W PySem.Calls PySem.Spec PyProof.Rows

/-! lists of pairs of numbers -/
section
variable {c : Cx} {X : XP} {l : Lo} {hp : List O} {K : KV}
end
end Mine

set_option autoImplicit false
namespace Mine
open PySem PySem.W PySem.Calls PySem.Spec PyProof.Rows

/-! the sort of a list, by a key that tells any two items apart -/
section
variable {prog : Program} {w : World} {A : Around} {E : Value → Shared → Prop} {s : Shared} {κ : SortKind} {key : Value → Int} {a₀ : Array Keyed} {st : SortSt}
end
end Mine

set_option autoImplicit false
namespace Mine
open PySem PySem.W PySem.Calls PySem.Spec PyProof.Rows

section
variable {prog : Program} {w : World} {A : Around} {E : Value → Shared → Prop} {s : Shared} {κ : SortKind} {key : Value → Int} {a₀ : Array Keyed} {st : SortSt}
end
end Mine

set_option autoImplicit false
namespace Mine
open PySem PySem.W PySem.Calls PySem.Spec PyProof.Rows

/-! two sorted rows are joined -/
section
variable {key : Value → Int}
variable {a b out : Array Keyed} {ia ib k : Nat} {x : Keyed}
end
end Mine

set_option autoImplicit false
namespace Mine
open PySem PySem.W PySem.Calls PySem.Spec PyProof.Rows

section
variable {prog : Program} {w : World} {A : Around} {E : Value → Shared → Prop} {s : Shared} {κ : SortKind} {key : Value → Int} {a₀ : Array Keyed} {st st' : SortSt}
end
end Mine

set_option autoImplicit false
namespace Mine
open PySem PySem.W PySem.Calls PySem.Spec PyProof.Rows

/-! the same from behind -/
section
variable {key : Value → Int}
variable {a b out : Array Keyed} {na nb k : Nat} {x : Keyed}
end
end Mine

set_option autoImplicit false
namespace Mine
open PySem PySem.W PySem.Calls PySem.Spec PyProof.Rows

section
variable {prog : Program} {w : World} {A : Around} {E : Value → Shared → Prop} {s : Shared} {κ : SortKind} {key : Value → Int} {a₀ : Array Keyed} {st st' : SortSt}
end
end Mine

set_option autoImplicit false
namespace Mine
open PySem PySem.W PySem.Calls PySem.Spec PyProof.Rows

section
variable {prog : Program} {w : World} {A : Around} {E : Value → Shared → Prop} {s : Shared} {κ : SortKind} {key : Value → Int} {a₀ : Array Keyed} {st : SortSt}
end
end Mine

set_option autoImplicit false
namespace Mine
open PySem PySem.W PySem.Calls PySem.Spec PyProof.Rows

section
variable {prog : Program} {w : World} {A : Around} {E : Value → Shared → Prop} {s : Shared} {κ : SortKind} {key : Value → Int} {a₀ : Array Keyed} {st : SortSt}
end
end Mine

set_option autoImplicit false
namespace Mine
open PySem PySem.W PySem.Calls PySem.Spec PyProof.Rows

/-! sorted, of a list of pairs -/
section
variable {prog : Program} {w : World} {A : Around} {E : Value → Shared → Prop} {s : Shared}
end
section
variable {fx : Fx} {X : XP} {σ : St} {W : Wd} {s : Shared}
end
section
variable {c : Cx} {X : XP} {l : Lo} {hp : List O} {K : KV}
end
end Mine

section
open PySem PySem.W PyProof.Rows
namespace Mine
set_option maxRecDepth 100000
set_option maxHeartbeats 8000000
def hpick {α : Type} (l : List α) : List Nat → List α
  | [] => []
  | i :: is => match l[i]? with | some x => x :: hpick l is | none => hpick l is
def q09 : Program := { PySem.Challenge.pw_uf050038_09 with main := { PySem.Challenge.pw_uf050038_09.main with body := hpick PySem.Challenge.pw_uf050038_09.main.body [1, 2, 4, 5, 7, 8, 9, 10, 12, 13, 15, 16, 17, 18, 19, 20, 21, 22, 23, 24, 25] } }
def lay : Nat → Nat → Frag → List Obj → List Obj
  | 0, _, _, _ => []
  | _ + 1, _, [], _ => []
  | n + 1, a, (b, o) :: ks, ms => match Nat.beq a b with
    | true => o :: lay n (a + 1) ks ms
    | false => match ms with
      | m :: ms => m :: lay n (a + 1) ((b, o) :: ks) ms
      | [] => []
def onAt : List Obj → Nat → (Obj → Obj) → List Obj
  | [], _, _ => []
  | o :: l, 0, f => f o :: l
  | o :: l, n + 1, f => o :: onAt l n f
def tr3 (m ep : Nat) (v : Value) : Obj → Obj
  | ⟨c, d, .dict es _, s⟩ => ⟨c, d, .dict ⟨match es.toList.take m with | [] => [] | e :: l => { e with val := v } :: l⟩ ep, s⟩
  | o => o
def tr12 (m : Nat) : Obj → Obj
  | ⟨c, d, .fields vs, s⟩ => ⟨c, d, .fields ⟨vs.toList.take m⟩, s⟩
  | o => o
def look (F : Frag) (a : Nat) : Obj := (F.lookup a).getD default
noncomputable def bootO (P : Params) (a : Nat) : Obj := ((boot_heap P).objs.toList[a]?).getD default
def tm : Obj → Obj
  | ⟨_, _, .func f, _⟩ => { cls := .none, data := .func { name := f.name, qualname := f.qualname, params := f.params, body := f.body, scope := f.scope, globals := 0, closure := [], defaults := .none, kwdefaults := .none } }
  | o => o
noncomputable def cutH (F : Params → Frag) (M : Params → Frag → List Obj) (n : Nat) (P : Params) (ov : List (Nat × (Obj → Obj))) : Heap := ⟨⟨ov.foldl (fun l x => onAt l x.1 x.2) (lay n 0 (F P) (M P (F P)))⟩, {}⟩
noncomputable def mis09 (P : Params) (F : Frag) : List Obj := [
  (bootO P 0),
  (bootO P 1),
  (bootO P 4),
  (bootO P 5),
  (bootO P 6),
  (bootO P 7),
  (bootO P 8),
  (bootO P 9),
  (bootO P 10),
  { cls := Value.type "tuple", data := Data.seq #[] },
  { cls := Value.none, data := Data.fields #[Value.int 2 0, Value.int 0 0, Value.ref 20, Value.int 4 0, Value.int 0 0, Value.ref 33, Value.int 7 0, Value.int 0 0, Value.ref 45, Value.int 9 0, Value.int 0 0, Value.ref 52, Value.int 12 0, Value.int 0 0, Value.ref 59, Value.int 15 0, Value.int 0 0, Value.ref 66, Value.int 24 0, Value.int 0 0, Value.ref 73, Value.int 33 0, Value.int 0 0, Value.ref 80, Value.int 37 0, Value.int 0 0, Value.ref 87, Value.int 51 0, Value.int 0 0, Value.ref 92, Value.int 61 0, Value.int 0 0, Value.ref 99, Value.int 63 0, Value.int 0 0, Value.ref 106, Value.int 67 0, Value.int 0 0, Value.ref 113, Value.int 78 0, Value.int 0 0, Value.ref 120, Value.int 86 0, Value.int 0 0, Value.ref 125, Value.int 92 0, Value.int 0 0, Value.ref 132, Value.int 98 0, Value.int 0 0, Value.ref 139, Value.int 104 0, Value.int 0 0, Value.ref 144, Value.int 112 0, Value.int 0 0, Value.ref 151, Value.int 120 0, Value.int 0 0, Value.ref 156, Value.int 129 0, Value.int 0 0, Value.ref 161] },
  { cls := Value.type "code", data := Data.fields #[Value.str (Str.ofString "<module>") 182, Value.str (Str.ofString "<module>") 183, Value.str (Str.ofString "/claim/cut.py") 184, Value.int 1 0, Value.int 0 0, Value.int 0 0, Value.int 0 0, Value.int 0 0, Value.ref 11, Value.bool false, Value.int 181 0, Value.ref 12, Value.none, Value.none, Value.none, Value.none, Value.int 185 0, Value.int 1 0, Value.str (Str.ofString "/claim/cut.py") 186] },
  { cls := Value.type "frame", slots := #[some (Value.ref 13), some (Value.ref 3), some (Value.ref 3), none, some (Value.str (Str.ofString "__main__") 164), none, some (Value.ref 0)] },
  { cls := Value.type "builtin_function_or_method", data := Data.fields #[Value.builtin "type.__prepare__", Value.type "type"] },
  { cls := Value.type "dict", data := Data.dict #[{ hash := PyData.keyHash P (Str.ofString "__module__"), key := Value.str (Str.ofString "__module__") 196, val := Value.str (Str.ofString "hillsight.errors") 187 }, { hash := PyData.keyHash P (Str.ofString "__qualname__"), key := Value.str (Str.ofString "__qualname__") 198, val := Value.str (Str.ofString "HillError") 197 }, { hash := PyData.keyHash P (Str.ofString "__firstlineno__"), key := Value.str (Str.ofString "__firstlineno__") 200, val := Value.int 2 199 }, { hash := PyData.keyHash P (Str.ofString "__static_attributes__"), key := Value.str (Str.ofString "__static_attributes__") 201, val := Value.ref 22 }] 4 },
  { cls := Value.type "tuple", data := Data.seq #[] },
  { cls := Value.none, data := Data.fields #[] },
  { cls := Value.type "code", data := Data.fields #[Value.str (Str.ofString "HillError") 191, Value.str (Str.ofString "HillError") 192, Value.str (Str.ofString "/claim/cut.py") 193, Value.int 2 0, Value.int 0 0, Value.int 0 0, Value.int 0 0, Value.int 0 0, Value.ref 18, Value.bool false, Value.int 181 0, Value.ref 19, Value.none, Value.none, Value.none, Value.none, Value.int 194 0, Value.int 2 0, Value.str (Str.ofString "/claim/cut.py") 195] },
  { cls := Value.type "frame", slots := #[some (Value.ref 20), some (Value.ref 3), some (Value.ref 17), none, some (Value.str (Str.ofString "hillsight.errors") 187), none, some (Value.ref 0)] },
  { cls := Value.type "super", data := Data.fields #[Value.ref 24, Value.ref 24, Value.ref 24] },
  { cls := Value.type "builtin_function_or_method", data := Data.fields #[Value.builtin "object.__init_subclass__", Value.ref 24] },
  { cls := Value.type "builtin_function_or_method", data := Data.fields #[Value.builtin "type.__prepare__", Value.type "type"] },
  { cls := Value.type "dict", data := Data.dict #[{ hash := PyData.keyHash P (Str.ofString "__module__"), key := Value.str (Str.ofString "__module__") 214, val := Value.str (Str.ofString "hillsight.errors") 187 }, { hash := PyData.keyHash P (Str.ofString "__qualname__"), key := Value.str (Str.ofString "__qualname__") 216, val := Value.str (Str.ofString "NoHill") 215 }, { hash := PyData.keyHash P (Str.ofString "__firstlineno__"), key := Value.str (Str.ofString "__firstlineno__") 218, val := Value.int 4 217 }, { hash := PyData.keyHash P (Str.ofString "__static_attributes__"), key := Value.str (Str.ofString "__static_attributes__") 219, val := Value.ref 35 }] 4 },
  { cls := Value.type "tuple", data := Data.seq #[] },
  { cls := Value.none, data := Data.fields #[] },
  { cls := Value.type "code", data := Data.fields #[Value.str (Str.ofString "NoHill") 209, Value.str (Str.ofString "NoHill") 210, Value.str (Str.ofString "/claim/cut.py") 211, Value.int 4 0, Value.int 0 0, Value.int 0 0, Value.int 0 0, Value.int 0 0, Value.ref 31, Value.bool false, Value.int 181 0, Value.ref 32, Value.none, Value.none, Value.none, Value.none, Value.int 212 0, Value.int 4 0, Value.str (Str.ofString "/claim/cut.py") 213] },
  { cls := Value.type "frame", slots := #[some (Value.ref 33), some (Value.ref 3), some (Value.ref 30), none, some (Value.str (Str.ofString "hillsight.errors") 187), none, some (Value.ref 0)] },
  { cls := Value.type "super", data := Data.fields #[Value.ref 37, Value.ref 37, Value.ref 37] },
  { cls := Value.type "builtin_function_or_method", data := Data.fields #[Value.builtin "object.__init_subclass__", Value.ref 37] },
  { cls := Value.none, data := Data.fields #[] },
  (tm (look F 46)),
  { cls := Value.none, data := Data.fields #[] },
  (tm (look F 53)),
  { cls := Value.none, data := Data.fields #[] },
  (tm (look F 60)),
  { cls := Value.none, data := Data.fields #[] },
  (tm (look F 67)),
  { cls := Value.none, data := Data.fields #[] },
  (tm (look F 74)),
  { cls := Value.none, data := Data.fields #[] },
  (tm (look F 81)),
  { cls := Value.none, data := Data.fields #[] },
  (tm (look F 88)),
  { cls := Value.none, data := Data.fields #[] },
  (tm (look F 93)),
  { cls := Value.none, data := Data.fields #[] },
  (tm (look F 100)),
  { cls := Value.none, data := Data.fields #[] },
  (tm (look F 107)),
  { cls := Value.none, data := Data.fields #[] },
  (tm (look F 114)),
  { cls := Value.none, data := Data.fields #[] },
  (tm (look F 121)),
  { cls := Value.none, data := Data.fields #[] },
  (tm (look F 126)),
  { cls := Value.none, data := Data.fields #[] },
  (tm (look F 133)),
  { cls := Value.none, data := Data.fields #[] },
  (tm (look F 140)),
  { cls := Value.none, data := Data.fields #[] },
  (tm (look F 145)),
  { cls := Value.none, data := Data.fields #[] },
  (tm (look F 152)),
  { cls := Value.none, data := Data.fields #[] },
  (tm (look F 157)),
  { cls := Value.none, data := Data.fields #[] },
  (tm (look F 162))]
def env09 : Env := { scope := PySem.Challenge.pw_uf050038_09.main.scope, locals := mainNs, globals := mainNs, cells := [], code := Value.ref 13, frame := some 14 }
def cod09 : Code := .body (behindTheImports PySem.Challenge.pw_uf050038_09) env09
noncomputable def hp09_0 (F : Params → Frag) : Params → Heap := fun P => cutH F mis09 15 P [(3, tr3 9 9 (Value.str (Str.ofString "__main__") 164)), (12, tr12 0)]
noncomputable def hp09_1 (F : Params → Frag) : Params → Heap := fun P => cutH F mis09 82 P [(3, tr3 17 17 (Value.str (Str.ofString "hillsight.signals") 284)), (12, tr12 24)]
noncomputable def hp09_2 (F : Params → Frag) : Params → Heap := fun P => cutH F mis09 163 P []
def sts09_1 : List Stmt := ((PySem.Challenge.pw_uf050038_09.main.body.drop 0).take 12)
def sts09_2 : List Stmt := ((PySem.Challenge.pw_uf050038_09.main.body.drop 12).take 14)
theorem cutK {p q : Program} {loose : List Str} {Xt : Shared → Bool} {α : Type} {Yf : Shared → α} {Ya : World → α} {N : Nat} {g0 : Bool} {Ha H1 H2 : Params → Heap} {ka k1 k2 m₀ na nb n1 n2 nf M : Nat} {ann : Option Value} {b l1 l2 : List Stmt} {env : Env} {c : Code} {q0 pa pb p1 p2 : Pos}
    (open_ : ∀ w : World, (fencedOpening treeTable p w N).map (fun s => (s.heap, s.gens, s.drawn, s.toks)) = some (boot_heap w.params, Array.mk [], boot_drawn, boot_toks))
    (size : ∀ w : World, ((boot_heap w.params).isNs mainGlobals && (Array.mk [] : Array GenState).size == 0, (boot_heap w.params).objs.size, (boot_heap w.params).nsMap mainGlobals "__annotations__") = (true, m₀, ann))
    (pre : ∀ (w : World) (os : OsState), topGo treeTable p w m₀ ann na ⟨boot_heap w.params, Array.mk [], boot_drawn, boot_toks, os⟩ (topStub p) = some (⟨Ha w.params, Array.mk [], boot_drawn, ka, os⟩, ⟨denote treeTable (.body b env), c, pa, [topFrame q0]⟩))
    (block : ∀ (w : World) (os : OsState), segRun treeTable p w m₀ ann 1 nb ⟨Ha w.params, Array.mk [], boot_drawn, ka, os⟩ (blockOf b env c pa [topFrame q0]) = some (.next, ⟨Ha w.params, Array.mk [], boot_drawn, ka, os⟩, c, pb))
    (hb : b = l1 ++ (l2 ++ []))
    (s1 : ∀ (w : World) (os : OsState), segRun treeTable p w m₀ ann 1 n1 ⟨Ha w.params, Array.mk [], boot_drawn, ka, os⟩ (piecesOf l1 env c pb [topFrame q0]) = some (.next, ⟨H1 w.params, Array.mk [], boot_drawn, k1, os⟩, c, p1))
    (s2 : ∀ (w : World) (os : OsState), segRun treeTable p w m₀ ann 1 n2 ⟨H1 w.params, Array.mk [], boot_drawn, k1, os⟩ (piecesOf l2 env c p1 [topFrame q0]) = some (.next, ⟨H2 w.params, Array.mk [], boot_drawn, k2, os⟩, c, p2))
    (fin : ∀ (w : World) (os : OsState), topRun treeTable p w m₀ ann nf ⟨H2 w.params, Array.mk [], boot_drawn, k2, os⟩ ⟨doneF .next, c, p2, [topFrame q0]⟩ = some ⟨H2 w.params, Array.mk [], boot_drawn, k2, os⟩)
    (hM : M = na + (nb + (n1 + (n2 + nf)))) (le : Nat.ble M N = true)
    (looks1 : ∀ (w : World) (os : OsState), (staticsOk (importedModules p.main.body) (boot_heap w.params) (H2 w.params) && namesBound p (H2 w.params) && gensDone ⟨H2 w.params, Array.mk [], boot_drawn, k2, os⟩ && laidKept (boot_heap w.params) (H2 w.params)) = true)
    (looks2 : ∀ (w : World) (os : OsState), openSeen q loose (importedModules p.main.body) Xt g0 ⟨H2 w.params, Array.mk [], boot_drawn, k2, os⟩ = openGood q loose)
    (looks3 : ∀ (w : World) (os : OsState), Yf ⟨H2 w.params, Array.mk [], boot_drawn, k2, os⟩ = Ya w) : LeftO p q loose Xt Yf Ya N g0 := by
  refine LeftO.of_pieces open_ size (fun w os => ?_) le (fun w => funext fun os => by rw [looks1, looks2, looks3])
  subst hM
  refine go_top (pre w os) (piece_block (block w os) ?_)
  rw [hb]
  exact (piece_app (s1 w os) (piece_app (s2 w os) (piece_nil (fin w os))))
def domA {A B C : Prop} (_ : A ∧ B → C) : Prop := A
theorem both_of {A B C : Prop} (f : A ∧ B → C) (a : domA f) (b : B) : C := f ⟨a, b⟩
set_option hygiene false in
local macro_rules | `(tactic| o_law) => `(tactic| refine holds_law (by decide +kernel) fun said => ?_)
set_option hygiene false in
local macro_rules | `(tactic| o_head $H:term) => `(tactic| (refine holds_open (q := Mine.q09) (loose := []) (Xt := fun s => xlAt Mine.q09 [] s && recOk (RowW.records (PySem.W.OpenRow.toRowW (PySem.W.OpenLaw.row PySem.Challenge.rw_uf050038_09))) s) (XP := XL Mine.q09 []) (Yf := Hook.obs $H) (Ya := Hook.val $H) (YP := Hook.says $H) (N := 2172) (And.left ?hc) (Hook.of $H) (Hook.keeps $H) (fun s e => xl_of s (Bool.and_eq_true_iff.mp e).1) XL.keeps (by rfl) (by rfl) (by rfl) (fun s e => recFacts_of (Bool.and_eq_true_iff.mp e).2) (by rfl) (by first | assumption | decide +kernel) (by decide +kernel) ⟨rfl, rfl, rfl, rfl, rfl, by decide +kernel⟩ ?hw (And.right ?hc); all_goals (try clear said)))
open_top hd09 for PySem.Challenge.rw_uf050038_09
theorem ts09_1 (w : World) (os : OsState) : segRun treeTable (PySem.W.OpenLaw.row PySem.Challenge.rw_uf050038_09).prog w 11 (some (Value.ref 6)) 1 625 (⟨hp09_0 Mine.hd09.heap_1 w.params, Array.mk [], boot_drawn, 187, os⟩ : Shared) (piecesOf sts09_1 env09 cod09 { line := 0, col := 0, endLine := 0, endCol := 0 } [topFrame { line := 0, col := 0, endLine := 0, endCol := 0 }]) = some (.next, (⟨hp09_1 Mine.hd09.heap_1 w.params, Array.mk [], boot_drawn, 286, os⟩ : Shared), cod09, { line := 36, col := 0, endLine := 36, endCol := 8 }) := by kernel_rfl
theorem ts09_2 (w : World) (os : OsState) : segRun treeTable (PySem.W.OpenLaw.row PySem.Challenge.rw_uf050038_09).prog w 11 (some (Value.ref 6)) 1 400 (⟨hp09_1 Mine.hd09.heap_1 w.params, Array.mk [], boot_drawn, 286, os⟩ : Shared) (piecesOf sts09_2 env09 cod09 { line := 36, col := 0, endLine := 36, endCol := 8 } [topFrame { line := 0, col := 0, endLine := 0, endCol := 0 }]) = some (.next, (⟨hp09_2 Mine.hd09.heap_1 w.params, Array.mk [], boot_drawn, 402, os⟩ : Shared), cod09, { line := 129, col := 0, endLine := 158, endCol := 89 }) := by kernel_rfl
theorem left09 : domA Mine.hd09 := by
  delta domA
  exact cutK (Ha := hp09_0 Mine.hd09.heap_1) (ka := 187) (m₀ := 11) (ann := some (Value.ref 6)) (na := 12) (nb := 1) (nf := 2) (b := behindTheImports PySem.Challenge.pw_uf050038_09) (env := env09) (c := cod09) (q0 := { line := 0, col := 0, endLine := 0, endCol := 0 }) (pa := { line := 0, col := 0, endLine := 0, endCol := 0 }) (pb := { line := 0, col := 0, endLine := 0, endCol := 0 }) (H1 := hp09_1 Mine.hd09.heap_1) (k1 := 286) (n1 := 625) (l1 := sts09_1) (p1 := { line := 36, col := 0, endLine := 36, endCol := 8 }) (H2 := hp09_2 Mine.hd09.heap_1) (k2 := 402) (n2 := 400) (l2 := sts09_2) (p2 := { line := 129, col := 0, endLine := 158, endCol := 89 }) (M := 1040) (boot_open (by kernel_rfl) (by decide +kernel) (fun s => by kernel_rfl)) (by intro w; kernel_rfl) (by intro w os; kernel_rfl) (by intro w os; kernel_rfl) (by kernel_rfl) ts09_1 ts09_2 (by intro w os; kernel_rfl) (by kernel_rfl) (by decide +kernel) (by intro w os; kernel_rfl) (by intro w os; kernel_rfl) (by intro w os; kernel_rfl)
end Mine
end

set_option autoImplicit false
namespace Mine
open PySem PySem.W PySem.Calls PySem.Spec PyProof.Rows
set_option Elab.async false
set_option linter.unusedSimpArgs false
set_option linter.unusedVariables false

noncomputable abbrev pgo (prog : Program) (w : World) (p : Program) (loose : List Str) (mean : ExcName → Option Value) (mg mb : Str → Option Value) : Pg := ⟨prog, w, Mine.hd09.heap_1 w.params, p, loose, mean, mg, mb⟩
section
variable {prog : Program} {w : World} {p : Program} {loose : List Str} {mean : ExcName → Option Value} {mg mb : Str → Option Value} {lev : Nat} {ns : List Int}
set_option maxRecDepth 100000
set_option maxHeartbeats 8000000

theorem gl_len : (pgo prog w p loose mean mg mb).gl "len" = some (.builtin "len") := by kernel_rfl
theorem gl_isinstance : (pgo prog w p loose mean mg mb).gl "isinstance" = some (.builtin "isinstance") := by kernel_rfl
theorem gl_min : (pgo prog w p loose mean mg mb).gl "min" = some (.builtin "min") := by kernel_rfl
theorem gl_max : (pgo prog w p loose mean mg mb).gl "max" = some (.builtin "max") := by kernel_rfl
theorem gl_all : (pgo prog w p loose mean mg mb).gl "all" = some (.builtin "all") := by kernel_rfl
theorem gl_any : (pgo prog w p loose mean mg mb).gl "any" = some (.builtin "any") := by kernel_rfl
theorem gl_abs : (pgo prog w p loose mean mg mb).gl "abs" = some (.builtin "abs") := by kernel_rfl
theorem gl_range : (pgo prog w p loose mean mg mb).gl "range" = some (.type "range") := by kernel_rfl
theorem gl_list : (pgo prog w p loose mean mg mb).gl "list" = some (.type "list") := by kernel_rfl
theorem gl_int : (pgo prog w p loose mean mg mb).gl "int" = some (.type "int") := by kernel_rfl
theorem gl_bool : (pgo prog w p loose mean mg mb).gl "bool" = some (.type "bool") := by kernel_rfl
theorem gl_HillError : (pgo prog w p loose mean mg mb).gl "HillError" = some (.ref 24) := by kernel_rfl
theorem gl_NoHill : (pgo prog w p loose mean mg mb).gl "NoHill" = some (.ref 37) := by kernel_rfl
theorem gl_slope : (pgo prog w p loose mean mg mb).gl "slope" = some (.ref 46) := by kernel_rfl
theorem gl_steeper : (pgo prog w p loose mean mg mb).gl "steeper" = some (.ref 53) := by kernel_rfl
theorem gl_need_hill : (pgo prog w p loose mean mg mb).gl "need_hill" = some (.ref 60) := by kernel_rfl
theorem gl_seen_later : (pgo prog w p loose mean mg mb).gl "seen_later" = some (.ref 67) := by kernel_rfl
theorem gl_seen_earlier : (pgo prog w p loose mean mg mb).gl "seen_earlier" = some (.ref 74) := by kernel_rfl
theorem gl_view : (pgo prog w p loose mean mg mb).gl "view" = some (.ref 81) := by kernel_rfl
theorem gl_hops : (pgo prog w p loose mean mg mb).gl "hops" = some (.ref 88) := by kernel_rfl
theorem gl_way : (pgo prog w p loose mean mg mb).gl "way" = some (.ref 93) := by kernel_rfl
theorem gl_whole : (pgo prog w p loose mean mg mb).gl "_law_whole" = some (.ref 100) := by kernel_rfl
theorem gl_cell_at : (pgo prog w p loose mean mg mb).gl "_law_cell_at" = some (.ref 107) := by kernel_rfl
theorem gl_height_by : (pgo prog w p loose mean mg mb).gl "_law_height_by" = some (.ref 114) := by kernel_rfl
theorem gl_longer : (pgo prog w p loose mean mg mb).gl "_law_longer" = some (.ref 121) := by kernel_rfl
theorem gl_land_by : (pgo prog w p loose mean mg mb).gl "_law_land_by" = some (.ref 126) := by kernel_rfl
theorem gl_refused : (pgo prog w p loose mean mg mb).gl "_law_refused" = some (.ref 152) := by kernel_rfl
theorem gl_seen_by : (pgo prog w p loose mean mg mb).gl "_law_seen_by" = some (.ref 133) := by kernel_rfl
theorem gl_near : (pgo prog w p loose mean mg mb).gl "_law_near" = some (.ref 140) := by kernel_rfl
theorem gl_left_by : (pgo prog w p loose mean mg mb).gl "_law_left_by" = some (.ref 145) := by kernel_rfl
theorem gl_known : (pgo prog w p loose mean mg mb).gl "_law_known" = some (.ref 157) := by kernel_rfl
theorem exm_NoHill_HillError : exmOne (pgo prog w p loose mean mg mb).K (.ref 37) (.ref 24) = some true := by kernel_rfl
theorem exm_NoHill_NoHill : exmOne (pgo prog w p loose mean mg mb).K (.ref 37) (.ref 37) = some true := by kernel_rfl
local macro_rules | `(tactic| walk_at "gl") => `(tactic| (simp only [gl_len, gl_isinstance, gl_min, gl_max, gl_all, gl_any, gl_abs, gl_range, gl_list, gl_int, gl_bool, gl_HillError, gl_NoHill, gl_slope, gl_steeper, gl_need_hill, gl_seen_later, gl_seen_earlier, gl_view, gl_hops, gl_way, gl_whole, gl_cell_at, gl_height_by, gl_longer, gl_land_by, gl_refused, gl_seen_by, gl_near, gl_left_by, gl_known]; first | done | rfl))
local macro_rules | `(tactic| walk_at "nm") => `(tactic| first | (with_reducible assumption) | (with_reducible exact setN_same) | ((with_reducible refine Eq.trans (setN_ne ?_) ?_); rfl; walk_at "nm") | ((with_reducible first | refine Eq.trans bind_c ?_ | refine Eq.trans bind_n ?_ | refine Eq.trans all_c ?_ | refine Eq.trans all_n ?_); walk_at "nm") | (refine Eq.trans (compLoc_eq (by decide +kernel)) ?_; walk_at "nm") | (simp only [setN, setAll, bindV, ofString_inj, String.reduceEq, if_true, if_false]; first | done | with_reducible rfl | with_reducible assumption))
local macro_rules | `(tactic| walk_at "hp") => `(tactic| first | with_reducible assumption | exact app_new | (refine app_get ?_; walk_at "hp") | with_reducible rfl | (simp; done) | rfl)
local macro_rules | `(tactic| walk_at "cx") => `(tactic| with_reducible assumption)
local macro_rules | `(tactic| walk_at "vc") => `(tactic| first
  | (show E _ _ _ _ _ _; first | refine e_name (by walk_at "nm") ?_ | refine e_int ?_ | refine e_bin ?_ | refine e_sub rfl ?_ | refine e_cmp rfl ?_ | refine e_callF (by walk_at "cx") (by walk_at "gl") (by kernel_rfl) (by kernel_rfl) rfl ?_ | refine e_callB (by walk_at "cx") (by walk_at "gl") (by kernel_rfl) rfl ?_ | refine e_callT (by walk_at "cx") (by walk_at "gl") (by kernel_rfl) rfl ?_ | refine e_glob (by walk_at "cx") (by kernel_rfl) (by walk_at "gl") ?_ | refine e_tuple ?_ | refine e_boolop ?_ | refine e_un ?_ | refine e_list ?_ | refine e_bool ?_ | refine e_str ?_ | refine e_none ?_ | refine e_append rfl rfl rfl ?_ | refine e_comp (by walk_at "cx") (by kernel_rfl) rfl ?_ | refine e_rev ?_)
  | (show Sz _ _; refine sz rfl ?_)
  | (show Lst _ _ _; refine lst_ref (by walk_at "hp") ?_)
  | (show Es _ _ _ _ _ _; first | refine es_cons rfl ?_ | refine es_nil ?_)
  | (show Ss _ _ _ _ _ _; first | refine ss_asg ?_ | refine ss_expr ?_ | refine ss_ret ?_ | refine ss_nil ?_ | refine ss_raise ?_)
  | (show S _ _ _ _ _ _; first | refine s_comp (by walk_at "cx") (by kernel_rfl) (by kernel_rfl) rfl ?_ | refine s_asg (by walk_at "cx") rfl (by kernel_rfl) ?_ | refine s_asgS rfl ?_ | refine s_ret ?_ | refine s_expr rfl ?_ | refine s_raise (by walk_at "cx") (by walk_at "gl") (by kernel_rfl) (by kernel_rfl) (by kernel_rfl) rfl ?_)
  | (show Bin _ _ _ _ _ _ _ _; first | refine bin_add ?_ | refine bin_sub ?_ | refine bin_mul ?_ ?_ | refine bin_mod ?_ ?_ | refine bin_div ?_ ?_ | refine bin_pow18 ?_ | refine bin_pow9 ?_ | refine bin_lists (by walk_at "hp") (by walk_at "hp") ?_ ?_)
  | (show Cmp _ _ _ _ _ _ _ _; first | refine cmp_lt ?_ | refine cmp_gt ?_ | refine cmp_ge ?_ | refine cmp_eq ?_ | refine cmp_ne ?_ | refine cmp_is_nn ?_ | refine cmp_is_vn rfl ?_)
  | (show Tru _ _ _ _ _ _; refine tru_bool ?_)
  | (show B _ _ _ _ _ _; first | refine b_cmp rfl ?_ | refine b_not ?_ | refine b_boolop ?_ | refine b_plain rfl ?_)
  | (show BL _ _ _ _ _ _ _; first | refine bl_and ?_ | refine bl_or ?_ | refine bl_and_nil ?_ | refine bl_or_nil ?_)
  | (show EL _ _ _ _ _ _ _; first | refine el_one ?_ | refine el_and ?_)
  | (show Un _ _ _ _ _ _ _; first | refine un_not ?_ | refine un_neg ?_)
  | (show Sub _ _ _ _ _ _ _; first | refine sb_tup ⟨by decide⟩ (by rfl) ?_ | refine sb_int (by walk_at "hp") ?_ ?_ | refine sb_scr (by walk_at "cx") ?_ (by with_reducible assumption) ?_)
  | (show CB _ _ _ _ _ _ _; first | refine isi_ii ?_ | refine isi_ib ?_ | refine isi_bi ?_ | refine isi_bb ?_ | refine isi_ti ?_ | refine isi_ni ?_ | refine isi_si ?_ | refine isi_rl (by walk_at "hp") ?_ | refine isi_ri (by walk_at "hp") ?_ | refine cb_len_scr (by walk_at "cx") ?_ | refine cb_len_int (by walk_at "hp") ?_ ?_ | refine cb_max (by walk_at "cx") ?_ | refine cb_min (by walk_at "cx") ?_ | refine cb_append (by walk_at "hp") ?_ ?_)
  | (show CT _ _ _ _ _ _ _; first | refine ct_int ?_ | refine ct_list_ref (by walk_at "hp") ?_ ?_)
  | (show If _ _ _; first | refine if_t ?_ | refine if_f ?_)
  | (show Hd _ _ _ _ _ _ _; refine hd_hit0 (by walk_at "cx") (by walk_at "gl") (by first | exact exm_NoHill_HillError | exact exm_NoHill_NoHill) (by kernel_rfl) (fun _ _ => ?_))
  | (show Rvs _ _ _ _; refine rvs_ref (by walk_at "hp") ?_ ?_)
  | (show Rng _ _; first | refine rng1 ?_ ?_ | refine rng2 ?_ ?_))
local macro_rules | `(tactic| walk_at "side") => `(tactic| first | assumption | (refine Side.mk ?_; first | assumption | decide | omega | exact .inr (by decide) | exact .inl (by decide) | exact .inr (by omega) | exact .inl (by omega) | (simp only [List.length_map, List.length_append, List.length_cons, List.length_nil, sizeLine] <;> omega)))

theorem slope_ok {X : Value → List O → Prop} {Q : V → List O → Prop} {hp : List O} {i : Nat} {xs : List Int} {a b : Int} (hi : hp[i]? = some (.list (xs.map .int))) (s : Side (0 ≤ a ∧ a < xs.length ∧ 0 ≤ b ∧ b < xs.length ∧ xs.length < 2 ^ 62))
    (h : Q (.tup [.int (g xs b - g xs a), .int (b - a)]) hp) : CallOK (pgo prog w p loose mean mg mb) (lev + 1) true ns 46 [.ref i, .int a, .int b] hp X Q := by
  refine fn_run (xs := ["land", "a", "b"]) (fnAt_of rfl (by kernel_rfl) (fn3 fun _ _ _ => rfl) (by decide) (by decide) rfl rfl rfl) rfl (by decide +kernel) fun c hc => ?_
  repeat' walk_at "vc"
  all_goals first | exact h | exact ⟨by have := s.h; omega⟩

theorem steeper_ok {X : Value → List O → Prop} {Q : V → List O → Prop} {hp : List O} {a b c d : Int} (s : Side (b.natAbs < 2 ^ 64 ∧ d.natAbs < 2 ^ 64)) (h : Q (.bool (decide (c * b < a * d))) hp) : CallOK (pgo prog w p loose mean mg mb) (lev + 1) true ns 53 [.tup [.int a, .int b], .tup [.int c, .int d]] hp X Q := by
  refine fn_run (xs := ["one", "other"]) (fnAt_of rfl (by kernel_rfl) (fn2 fun _ _ => rfl) (by decide) (by decide) rfl rfl rfl) rfl (by decide +kernel) fun c hc => ?_
  repeat' walk_at "vc"
  all_goals first | exact h | exact ⟨.inr s.h.1⟩ | exact ⟨.inr s.h.2⟩

theorem whole_ok {X : Value → List O → Prop} {Q : V → List O → Prop} {hp : List O} {a : Int} (h : Q (.bool true) hp) : CallOK (pgo prog w p loose mean mg mb) (lev + 1) true ns 100 [.int a] hp X Q := by
  refine fn_run (xs := ["_law_found"]) (fnAt_of rfl (by kernel_rfl) (fn1 fun _ => rfl) (by decide) (by decide) rfl rfl rfl) rfl (by decide +kernel) fun c hc => ?_
  repeat' walk_at "vc"
  exact h

def cell (ns : List Int) (k : Int) : Int := (ns[k.toNat]?).getD 0
theorem cell_at_ok {X : Value → List O → Prop} {Q : V → List O → Prop} {hp : List O} {k : Int} (hn : ns.length < 2 ^ 62) (h0 : Side (0 ≤ k)) (h : Q (.int (cell ns k)) hp) : CallOK (pgo prog w p loose mean mg mb) (lev + 1) true ns 107 [.scr, .int k] hp X Q := by
  refine fn_run (xs := ["_law_script", "_law_k"]) (fnAt_of rfl (by kernel_rfl) (fn2 fun _ _ => rfl) (by decide) (by decide) rfl rfl rfl) rfl (by decide +kernel) fun c hc => ?_
  repeat' walk_at "vc"
  refine ss_if ?_
  repeat' walk_at "vc"
  have h0' := h0.h
  refine if_decide (fun q => ?_) (fun q => ?_)
  · have e : ns[k.toNat]? = some (cell ns k) := by
      unfold cell
      rw [List.getElem?_eq_getElem (by omega)]
      rfl
    repeat' walk_at "vc"
    · exact h0
    · exact h
  · have e : cell ns k = 0 := by
      unfold cell
      rw [List.getElem?_eq_none (by omega)]
      rfl
    repeat' walk_at "vc"
    rw [e] at h
    exact h

theorem height_by_ok {X : Value → List O → Prop} {Q : V → List O → Prop} {hp : List O} {a k kd t : Int} (s : Side (k.natAbs < 2 ^ 62)) (h : ∀ x, Q (.int x) hp) : CallOK (pgo prog w p loose mean mg mb) (lev + 1) true ns 114 [.int a, .int k, .int kd, .int t] hp X Q := by
  refine fn_run (xs := ["_law_cell", "_law_k", "_law_kind", "_law_tilt"]) (fnAt_of rfl (by kernel_rfl) (fn4 fun _ _ _ _ => rfl) (by decide) (by decide) rfl rfl rfl) rfl (by decide +kernel) fun c hc => ?_
  repeat' walk_at "vc"
  refine ss_if ?_
  repeat' walk_at "vc"
  refine if_decide (fun q => ?_) (fun q => ?_)
  · repeat' walk_at "vc"
    all_goals first | exact h _ | walk_at "side"
  repeat' walk_at "vc"
  refine ss_if ?_
  repeat' walk_at "vc"
  refine if_decide (fun q => ?_) (fun q => ?_)
  · repeat' walk_at "vc"
    all_goals first | exact h _ | walk_at "side" | exact ⟨.inr (by have := s.h; omega)⟩
  repeat' walk_at "vc"
  refine ss_if ?_
  repeat' walk_at "vc"
  refine if_decide (fun q => ?_) (fun q => ?_)
  · repeat' walk_at "vc"
    all_goals first | exact h _ | walk_at "side"
  repeat' walk_at "vc"
  refine ss_if ?_
  repeat' walk_at "vc"
  refine if_decide (fun q => ?_) (fun q => ?_)
  · repeat' walk_at "vc"
    all_goals first | exact h _ | walk_at "side" | exact ⟨.inr (by have := s.h; omega)⟩
  repeat' walk_at "vc"
  all_goals first | exact h _ | walk_at "side"

theorem land_by_ok {X : Value → List O → Prop} {Q : V → List O → Prop} {hp : List O} {m : Int} (hn : ns.length < 2 ^ 62) (hm : Side (0 < m ∧ m < 1000)) (h : ∀ xs : List Int, 1 ≤ xs.length → (xs.length : Int) ≤ m → Q (.ref hp.length) (hp ++ [.list (xs.map .int)])) : CallOK (pgo prog w p loose mean mg mb) (lev + 2) true ns 126 [.scr, .int m] hp X Q := by
  refine fn_run (xs := ["_law_script", "_law_most"]) (fnAt_of rfl (by kernel_rfl) (fn2 fun _ _ => rfl) (by decide) (by decide) rfl rfl rfl) rfl (by decide +kernel) fun c hc => ?_
  have hm' := hm.h
  repeat' (first | walk_at "vc" | refine cell_at_ok hn ?_ ?_)
  all_goals try walk_at "side"
  refine i_range (by walk_at "cx") gl_range (by kernel_rfl) rfl ?_
  have m1 := Int.emod_lt_of_pos (cell ns 0) (b := m) (by omega)
  have m2 := Int.emod_nonneg (cell ns 0) (b := m) (by omega)
  repeat' walk_at "vc"
  · walk_at "side"
  refine comp_ints (by walk_at "cx") (by kernel_rfl) (fun _ _ => True) ?_ (fun _ => trivial) ?_ ?_
  · rw [rngItems_length, sizeLine_eq]; omega
  · intro k hk vs hv
    refine ⟨_, tgt1, fun c' hc' => ?_⟩
    rw [rngItems_get]
    rw [rngItems_length] at hk
    repeat' (first | walk_at "vc" | refine cell_at_ok hn ?_ ?_ | refine height_by_ok ?_ (fun x => ?_))
    all_goals first | walk_at "side" | exact ⟨rfl, _, rfl, trivial⟩
  · intro ys hy _
    rw [rngItems_length] at hy
    exact h ys (by omega) (by omega)

theorem longer_ok {X : Value → List O → Prop} {Q : V → List O → Prop} {hp : List O} {i : Nat} {xs : List Int} {m r : Int} (hn : ns.length < 2 ^ 62) (hi : hp[i]? = some (.list (xs.map .int))) (hx : Side (xs.length < 1000 ∧ 0 < m ∧ m < 1000 ∧ 0 ≤ r ∧ r < 1000))
    (h : ∀ ys : List Int, (ys.length : Int) = xs.length + r → Q (.ref hp.length) (hp ++ [.list (ys.map .int)])) : CallOK (pgo prog w p loose mean mg mb) (lev + 2) true ns 121 [.scr, .ref i, .int m, .int r] hp X Q := by
  refine fn_run (xs := ["_law_script", "_law_land", "_law_most", "_law_many"]) (fnAt_of rfl (by kernel_rfl) (fn4 fun _ _ _ _ => rfl) (by decide) (by decide) rfl rfl rfl) rfl (by decide +kernel) fun c hc => ?_
  have hx' := hx.h
  repeat' (first | walk_at "vc" | refine cell_at_ok hn ?_ ?_)
  all_goals try walk_at "side"
  refine ss_cut (fun l hp' => ∃ ys : List Int, (ys.length : Int) = xs.length + r ∧ hp' = hp ++ [.list (ys.map .int)] ∧ l "_law_found" = some (.ref hp.length)) ?_ ?_
  · refine s_for1 (by walk_at "cx") (by kernel_rfl) rfl ?_
    refine i_range (by walk_at "cx") gl_range (by kernel_rfl) rfl ?_
    repeat' walk_at "vc"
    · walk_at "side"
    refine ⟨fun k l hp' => ∃ ys : List Int, ys.length = xs.length + k ∧ hp' = hp ++ [.list (ys.map .int)] ∧ l "_law_found" = some (.ref hp.length) ∧ l "_law_script" = some .scr ∧ l "_law_head" = some (.int (cell ns 0)) ∧ l "_law_most" = some (.int m) ∧ l "_law_tilt" = some (.int (cell ns 0 / m / 5 % 7 - 3)), ⟨xs, by omega, rfl, by walk_at "nm", by walk_at "nm", by walk_at "nm", by walk_at "nm", by walk_at "nm"⟩, fun _ _ _ _ => trivial, ?_, ?_⟩
    · rintro k hk l hp' ⟨ys, hy, rfl, g1, g2, g3, g4, g5⟩
      rw [rngItems_get]
      rw [rngItems_length] at hk
      repeat' (first | walk_at "vc" | refine cell_at_ok hn ?_ ?_ | refine height_by_ok ?_ (fun x => ?_))
      all_goals first | walk_at "side" | skip
      refine ⟨ys ++ [x], by simp only [List.length_append, List.length_cons, List.length_nil, hy]; omega, by rw [List.map_append]; simp, by walk_at "nm", by walk_at "nm", by walk_at "nm", by walk_at "nm", by walk_at "nm"⟩
    · rintro l hp' ⟨ys, hy, rfl, g1, g2, g3, g4, g5⟩
      rw [rngItems_length] at hy
      exact ⟨rfl, ys, by omega, rfl, g1⟩
  rintro l hp' ⟨ys, hy, rfl, g1⟩
  repeat' walk_at "vc"
  exact h ys hy

theorem need_hill_ok {X : Value → List O → Prop} {Q : V → List O → Prop} {hp : List O} {i : Nat} {xs : List Int} {v : V} (hi : hp[i]? = some (.list (xs.map .int))) (hl : xs.length < 2 ^ 62) (hv : Plain hp v)
    (hg : ∀ a, v = .int a → 0 ≤ a → a < xs.length → Q .none hp) (hb : (∀ a, v = .int a → 0 ≤ a → a < xs.length → False) → X (.ref 37) hp) : CallOK (pgo prog w p loose mean mg mb) (lev + 1) true ns 60 [.ref i, v] hp X Q := by
  refine fn_run (xs := ["land", "a"]) (fnAt_of rfl (by kernel_rfl) (fn2 fun _ _ => rfl) (by decide) (by decide) rfl rfl rfl) rfl (by decide +kernel) fun c hc => ?_
  refine ss_if ?_
  cases v with
  | int a =>
    repeat' walk_at "vc"
    refine if_decide (fun q => ?_) (fun q => ?_)
    · repeat' walk_at "vc"
      exact hb fun b e h0 h1 => by cases e; omega
    repeat' walk_at "vc"
    · exact ⟨hl⟩
    refine if_decide (fun q => ?_) (fun q => ?_)
    · repeat' walk_at "vc"
      exact hb fun b e h0 h1 => by cases e; omega
    repeat' walk_at "vc"
    exact hg a rfl (by omega) (by omega)
  | ref j =>
    obtain ⟨ys, hj⟩ := hv
    repeat' walk_at "vc"
    exact hb fun b e h0 h1 => by cases e
  | scr => exact hv.elim
  | glob _ => exact hv.elim
  | _ =>
    repeat' walk_at "vc"
    exact hb fun b e h0 h1 => by cases e

def topV (f : Int → Int) (a : Int) : Option Int → V
  | none => .none
  | some q => .tup [.int (f q - f a), .int (q - a)]
theorem lat_succ (f : Int → Int) (a : Int) (k : Nat) : lat f a (k + 1) = match (lat f a k).getLast? with | none => lat f a k ++ [a + 1 + k] | some q => if Bl f a q (a + 1 + k) then lat f a k ++ [a + 1 + k] else lat f a k := rfl
theorem lat_len (f : Int → Int) (a : Int) : ∀ k : Nat, (lat f a k).length ≤ k
  | 0 => Nat.le_refl _
  | k + 1 => by
    have := lat_len f a k
    rw [lat_succ]
    split
    · simp; omega
    · split <;> simp <;> omega
theorem set_new {hp : List O} {a b : O} : (hp ++ [a]).set hp.length b = hp ++ [b] := by simp
theorem map_app (xs : List Int) (x : Int) : xs.map V.int ++ [.int x] = (xs ++ [x]).map V.int := by simp
theorem seen_later_ok {X : Value → List O → Prop} {Q : V → List O → Prop} {hp : List O} {i : Nat} {xs : List Int} {a : Int} (hx : hp[i]? = some (.list (xs.map .int))) (s : Side (0 ≤ a ∧ a < xs.length ∧ xs.length < 2 ^ 20)) (h : Q (.ref hp.length) (hp ++ [.list ((lat (g xs) a (xs.length - 1 - a).toNat).map .int)])) : CallOK (pgo prog w p loose mean mg mb) (lev + 2) true ns 67 [.ref i, .int a] hp X Q := by
  refine fn_run (xs := ["land", "a"]) (fnAt_of rfl (by kernel_rfl) (fn2 fun _ _ => rfl) (by decide) (by decide) rfl rfl rfl) rfl (by decide +kernel) fun c hc => ?_
  have s' := s.h
  repeat' walk_at "vc"
  refine ss_cut (fun l hp' => hp' = hp ++ [.list ((lat (g xs) a (xs.length - 1 - a).toNat).map .int)] ∧ l "found" = some (.ref hp.length)) ?_ ?_
  · refine s_for1 (by walk_at "cx") (by kernel_rfl) rfl ?_
    refine i_range (by walk_at "cx") gl_range (by kernel_rfl) rfl ?_
    repeat' walk_at "vc"
    all_goals try walk_at "side"
    refine ⟨fun k l hp' => hp' = hp ++ [.list ((lat (g xs) a k).map .int)] ∧ l "found" = some (.ref hp.length) ∧ l "top" = some (topV (g xs) a (lat (g xs) a k).getLast?) ∧ l "land" = some (.ref i) ∧ l "a" = some (.int a), ⟨rfl, by walk_at "nm", by rw [show topV (g xs) a (lat (g xs) a 0).getLast? = V.none from rfl]; walk_at "nm", by walk_at "nm", by walk_at "nm"⟩, fun _ _ _ _ => trivial, ?_, ?_⟩
    · rintro k hk l hp' ⟨rfl, g1, g2, g3, g4⟩
      rw [rngItems_get]
      rw [rngItems_length] at hk
      have lo := lat_ok (g xs) a k
      have ll := lat_len (g xs) a k
      have le := lat_succ (g xs) a k
      have hxa : (hp ++ [O.list ((lat (g xs) a k).map V.int)])[i]? = some (.list (xs.map .int)) := app_get hx
      have sl : Side (0 ≤ a ∧ a < xs.length ∧ 0 ≤ a + 1 + (k : Int) ∧ a + 1 + (k : Int) < xs.length ∧ xs.length < 2 ^ 62) := ⟨by omega⟩
      have sa : Side (((lat (g xs) a k).map V.int).length ≤ sizeLine) := ⟨by rw [List.length_map, sizeLine_eq]; omega⟩
      repeat' (first | walk_at "vc" | refine slope_ok hxa sl ?_)
      refine ss_if ?_
      rcases lo with ⟨e, rfl⟩ | ⟨q, e, h1, h2, h3⟩
      · rw [e] at g2 le ⊢
        dsimp only [List.getLast?_nil] at g2 le
        have g2' : l "top" = some V.none := g2
        repeat' walk_at "vc"
        · exact ⟨by rw [sizeLine_eq]; decide⟩
        refine ⟨?_, by walk_at "nm", ?_, by walk_at "nm", by walk_at "nm"⟩
        · rw [le, set_new]; rfl
        · rw [le, List.nil_append, List.getLast?_singleton]
          show _ = some (V.tup [.int (g xs (a + 1 + ((0 : Nat) : Int)) - g xs a), .int (a + 1 + ((0 : Nat) : Int) - a)])
          walk_at "nm"
      · rw [e] at g2 le
        dsimp only at le
        have g2' : l "top" = some (V.tup [.int (g xs q - g xs a), .int (q - a)]) := g2
        have st : Side ((a + 1 + (k : Int) - a).natAbs < 2 ^ 64 ∧ (q - a).natAbs < 2 ^ 64) := ⟨by omega⟩
        repeat' (first | walk_at "vc" | refine steeper_ok st ?_)
        refine if_decide (fun z => ?_) (fun z => ?_)
        · rw [if_pos z] at le
          repeat' walk_at "vc"
          · exact sa
          refine ⟨?_, by walk_at "nm", ?_, by walk_at "nm", by walk_at "nm"⟩
          · rw [le, set_new, map_app]
          · rw [le, List.getLast?_concat]
            show _ = some (V.tup _)
            walk_at "nm"
        · rw [if_neg z] at le
          repeat' walk_at "vc"
          refine ⟨by rw [le], by walk_at "nm", ?_, by walk_at "nm", by walk_at "nm"⟩
          rw [le, e]
          show _ = some (V.tup _)
          walk_at "nm"
    · rintro l hp' ⟨rfl, g1, g2, g3, g4⟩
      rw [rngItems_length]
      refine ⟨rfl, ?_, g1⟩
      congr 6
      omega
  rintro l hp' ⟨rfl, g1⟩
  repeat' walk_at "vc"
  exact h

theorem bl_back {f : Int → Int} {a q : Int} {k : Nat} : Bl (fun x => f (-x)) (-a) q (-a + 1 + k) ↔ (f (-q) - f a) * (1 + (k : Int)) < (f (a - (1 + (k : Int))) - f a) * (q + a) := by
  have e1 : -(-a + 1 + (k : Int)) = a - (1 + (k : Int)) := by omega
  have e2 : -a + 1 + (k : Int) - -a = 1 + (k : Int) := by omega
  have e3 : q - -a = q + a := by omega
  unfold Bl
  dsimp only
  rw [e1, e2, e3, Int.neg_neg]
def topB (f : Int → Int) (a : Int) : Option Int → V
  | none => .none
  | some q => .tup [.int (f (-q) - f a), .int (q + a)]
theorem seen_earlier_ok {X : Value → List O → Prop} {Q : V → List O → Prop} {hp : List O} {i : Nat} {xs : List Int} {a : Int} (hx : hp[i]? = some (.list (xs.map .int))) (s : Side (0 ≤ a ∧ a < xs.length ∧ xs.length < 2 ^ 20)) (h : ∀ j, Q (.ref (hp ++ [j]).length) (hp ++ [j] ++ [.list ((ear (g xs) a a.toNat).reverse.map .int)])) : CallOK (pgo prog w p loose mean mg mb) (lev + 2) true ns 74 [.ref i, .int a] hp X Q := by
  refine fn_run (xs := ["land", "a"]) (fnAt_of rfl (by kernel_rfl) (fn2 fun _ _ => rfl) (by decide) (by decide) rfl rfl rfl) rfl (by decide +kernel) fun c hc => ?_
  have s' := s.h
  repeat' walk_at "vc"
  refine ss_cut (fun l hp' => hp' = hp ++ [.list ((ear (g xs) a a.toNat).map .int)] ∧ l "found" = some (.ref hp.length)) ?_ ?_
  · refine s_for1 (by walk_at "cx") (by kernel_rfl) rfl ?_
    refine i_range (by walk_at "cx") gl_range (by kernel_rfl) rfl ?_
    repeat' walk_at "vc"
    all_goals try walk_at "side"
    refine ⟨fun k l hp' => hp' = hp ++ [.list ((ear (g xs) a k).map .int)] ∧ l "found" = some (.ref hp.length) ∧ l "top" = some (topB (g xs) a (lat (fun x => g xs (-x)) (-a) k).getLast?) ∧ l "land" = some (.ref i) ∧ l "a" = some (.int a), ⟨rfl, by walk_at "nm", by rw [show topB (g xs) a (lat (fun x => g xs (-x)) (-a) 0).getLast? = V.none from rfl]; walk_at "nm", by walk_at "nm", by walk_at "nm"⟩, fun _ _ _ _ => trivial, ?_, ?_⟩
    · rintro k hk l hp' ⟨rfl, g1, g2, g3, g4⟩
      rw [rngItems_get]
      rw [rngItems_length] at hk
      have lo := lat_ok (fun x => g xs (-x)) (-a) k
      have ll := lat_len (fun x => g xs (-x)) (-a) k
      have le := lat_succ (fun x => g xs (-x)) (-a) k
      have ee : ∀ j, ear (g xs) a j = (lat (fun x => g xs (-x)) (-a) j).map (fun x => -x) := fun _ => rfl
      have s1 : Side (0 ≤ a - (1 + (k : Int)) ∧ a - (1 + (k : Int)) < xs.length ∧ xs.length < 2 ^ 62) := ⟨by omega⟩
      have s2 : Side (0 ≤ a ∧ a < xs.length ∧ xs.length < 2 ^ 62) := ⟨by omega⟩
      have sa : Side (((ear (g xs) a k).map V.int).length ≤ sizeLine) := ⟨by rw [List.length_map, ee, List.length_map, sizeLine_eq]; omega⟩
      have pl : -(-a + 1 + (k : Int)) = a - (1 + (k : Int)) := by omega
      repeat' walk_at "vc"
      all_goals try assumption
      refine ss_if ?_
      rcases lo with ⟨e, rfl⟩ | ⟨q, e, h1, h2, h3⟩
      · rw [e] at g2 le
        dsimp only [List.getLast?_nil] at g2 le
        have g2' : l "top" = some V.none := g2
        have e0 : ear (g xs) a 0 = [] := rfl
        rw [e0] at sa ⊢
        repeat' walk_at "vc"
        · exact sa
        refine ⟨?_, by walk_at "nm", ?_, by walk_at "nm", by walk_at "nm"⟩
        · rw [ee, le, set_new, List.nil_append, List.map_singleton, pl]
          rfl
        · rw [le, List.nil_append, List.getLast?_singleton]
          show _ = some (V.tup [.int (g xs (-(-a + 1 + ((0 : Nat) : Int))) - g xs a), .int (-a + 1 + ((0 : Nat) : Int) + a)])
          rw [pl, show -a + 1 + ((0 : Nat) : Int) + a = 1 + ((0 : Nat) : Int) by omega]
          walk_at "nm"
      · rw [e] at g2 le
        dsimp only at le
        have g2' : l "top" = some (V.tup [.int (g xs (-q) - g xs a), .int (q + a)]) := g2
        have st : Side ((1 + (k : Int)).natAbs < 2 ^ 64 ∧ (q + a).natAbs < 2 ^ 64) := ⟨by omega⟩
        repeat' (first | walk_at "vc" | refine steeper_ok st ?_)
        refine if_decide (fun z => ?_) (fun z => ?_)
        · rw [if_pos (bl_back.mpr z)] at le
          repeat' walk_at "vc"
          · exact sa
          refine ⟨?_, by walk_at "nm", ?_, by walk_at "nm", by walk_at "nm"⟩
          · rw [set_new, map_app, ee (k + 1), le, List.map_append (f := fun x : Int => -x), List.map_singleton, pl]
            rfl
          · rw [le, List.getLast?_concat]
            show _ = some (V.tup [.int (g xs (-(-a + 1 + (k : Int))) - g xs a), .int (-a + 1 + (k : Int) + a)])
            rw [pl, show -a + 1 + (k : Int) + a = 1 + (k : Int) by omega]
            walk_at "nm"
        · rw [if_neg (fun y => z (bl_back.mp y))] at le
          repeat' walk_at "vc"
          refine ⟨by rw [ee (k + 1), le, ← ee k], by walk_at "nm", ?_, by walk_at "nm", by walk_at "nm"⟩
          rw [le, e]
          show _ = some (V.tup _)
          walk_at "nm"
    · rintro l hp' ⟨rfl, g1, g2, g3, g4⟩
      rw [rngItems_length]
      refine ⟨rfl, ?_, g1⟩
      congr 6
      omega
  rintro l hp' ⟨rfl, g1⟩
  have ll := lat_len (fun x => g xs (-x)) (-a) a.toNat
  repeat' walk_at "vc"
  · exact ⟨by rw [List.length_map]; unfold ear; rw [List.length_map, sizeLine_eq]; omega⟩
  rw [← List.map_reverse]
  exact h _

theorem view_ok {X : Value → List O → Prop} {Q : V → List O → Prop} {hp : List O} {i : Nat} {xs : List Int} {v : V} (hx : hp[i]? = some (.list (xs.map .int))) (hl : xs.length < 2 ^ 20) (hv : Plain hp v)
    (hg : ∀ a : Int, v = .int a → 0 ≤ a → a < xs.length → ∀ j1 j2 j3, Q (.ref (hp ++ [j1] ++ [j2] ++ [j3]).length) (hp ++ [j1] ++ [j2] ++ [j3] ++ [.list ((dueB (g xs) a xs.length).map .int)]))
    (hb : (∀ a, v = .int a → 0 ≤ a → a < xs.length → False) → X (.ref 37) hp) : CallOK (pgo prog w p loose mean mg mb) (lev + 3) true ns 81 [.ref i, v] hp X Q := by
  refine fn_run (xs := ["land", "a"]) (fnAt_of rfl (by kernel_rfl) (fn2 fun _ _ => rfl) (by decide) (by decide) rfl rfl rfl) rfl (by decide +kernel) fun c hc => ?_
  repeat' walk_at "vc"
  refine need_hill_ok hx (by omega) hv (fun a ea a0 a1 => ?_) (fun z => hb z)
  have q := hg a ea a0 a1
  subst ea
  have s : Side (0 ≤ a ∧ a < xs.length ∧ xs.length < 2 ^ 20) := ⟨by omega⟩
  have l1 := lat_len (fun x => g xs (-x)) (-a) a.toNat
  have l2 := lat_len (g xs) a (xs.length - 1 - a).toNat
  have ve := view_eq (g xs) (a := a.toNat) (n := xs.length) (by omega)
  rw [show ((a.toNat : Nat) : Int) = a by omega, show xs.length - 1 - a.toNat = (xs.length - 1 - a).toNat by omega] at ve
  repeat' walk_at "vc"
  refine seen_earlier_ok hx s (fun j1 => ?_)
  repeat' walk_at "vc"
  refine seen_later_ok (app_get (app_get hx)) s ?_
  repeat' walk_at "vc"
  · refine ⟨?_⟩
    rw [List.length_map, List.length_map, List.length_reverse, sizeLine_eq]
    unfold ear
    rw [List.length_map]
    omega
  rw [← List.map_append, ve]
  exact q _ _ _

theorem min_eq {a b : Int} : (if b < a then b else a) = min a b := by split <;> omega
theorem max_eq {a b : Int} : (if b > a then b else a) = max a b := by split <;> omega

theorem seen_by_ok {X : Value → List O → Prop} {Q : V → List O → Prop} {hp : List O} {i : Nat} {xs : List Int} {lo hi : Int} (hx : hp[i]? = some (.list (xs.map .int))) (s : Side (0 ≤ lo ∧ lo < hi ∧ hi < xs.length ∧ xs.length < 2 ^ 60)) (h1 : Sees (g xs) lo hi → Q (.bool true) hp) (h0 : ¬ Sees (g xs) lo hi → Q (.bool false) hp) : CallOK (pgo prog w p loose mean mg mb) (lev + 1) true ns 133 [.ref i, .int lo, .int hi] hp X Q := by
  refine fn_run (xs := ["_law_land", "_law_low", "_law_high"]) (fnAt_of rfl (by kernel_rfl) (fn3 fun _ _ _ => rfl) (by decide) (by decide) rfl rfl rfl) rfl (by decide +kernel) fun c hc => ?_
  have s' := s.h
  have sl : Side (0 ≤ lo ∧ lo < xs.length ∧ xs.length < 2 ^ 62) := ⟨by omega⟩
  have sh : Side (0 ≤ hi ∧ hi < xs.length ∧ xs.length < 2 ^ 62) := ⟨by omega, by omega, sl.h.2.2⟩
  have sm : ∀ z : Int, Side (z.natAbs < 2 ^ 64 ∨ (hi - lo).natAbs < 2 ^ 64) := fun z => ⟨.inr (by omega)⟩
  repeat' walk_at "vc"
  all_goals try walk_at "side"
  refine ss_cons ?_
  refine s_for1 (by walk_at "cx") (by kernel_rfl) rfl ?_
  refine i_range (by walk_at "cx") gl_range (by kernel_rfl) rfl ?_
  repeat' walk_at "vc"
  · walk_at "side"
  refine ⟨fun k l hp' => hp' = hp ∧ l "_law_land" = some (.ref i) ∧ l "_law_low" = some (.int lo) ∧ l "_law_high" = some (.int hi) ∧ l "_law_rise" = some (.int (g xs hi - g xs lo)) ∧ ∀ j, lo < j → j < lo + 1 + k → Bl (g xs) lo j hi, ⟨rfl, by walk_at "nm", by walk_at "nm", by walk_at "nm", by walk_at "nm", fun j j1 j2 => by omega⟩, fun _ _ _ _ => trivial, ?_, ?_⟩
  · rintro k hk l hp' ⟨rfl, g1, g2, g3, g4, g5⟩
    rw [rngItems_get]
    rw [rngItems_length] at hk
    have sk : Side (0 ≤ lo + 1 + (k : Int) ∧ lo + 1 + (k : Int) < xs.length ∧ xs.length < 2 ^ 62) := ⟨by omega, by omega, sl.h.2.2⟩
    have sn : ∀ z : Int, Side (z.natAbs < 2 ^ 64 ∨ (lo + 1 + (k : Int) - lo).natAbs < 2 ^ 64) := fun z => ⟨.inr (by omega)⟩
    refine ss_if ?_
    repeat' walk_at "vc"
    all_goals first | assumption | exact sm _ | exact sn _ | skip
    refine if_decide (fun z => ?_) (fun z => ?_)
    · repeat' walk_at "vc"
      refine h0 fun sz => ?_
      have := sz (lo + 1 + k) (by omega) (by omega)
      unfold Bl at this
      omega
    · repeat' walk_at "vc"
      refine ⟨rfl, by walk_at "nm", by walk_at "nm", by walk_at "nm", by walk_at "nm", fun j j1 j2 => ?_⟩
      rcases Int.lt_or_le j (lo + 1 + k) with y | y
      · exact g5 j j1 y
      · have : j = lo + 1 + k := by omega
        subst this
        unfold Bl
        omega
  · rintro l hp' ⟨rfl, g1, g2, g3, g4, g5⟩
    rw [rngItems_length] at g5
    repeat' walk_at "vc"
    exact h1 fun j j1 j2 => g5 j j1 (by omega)

theorem hops_ok {X : Value → List O → Prop} {Q : V → List O → Prop} {hp : List O} {i : Nat} {xs : List Int} {v : V} (hx : hp[i]? = some (.list (xs.map .int))) (hl : xs.length ≤ 256) (hv : Plain hp v)
    (hg : ∀ a : Int, v = .int a → 0 ≤ a → a < xs.length → ∀ (ys : List Int) (H : Nat) (hp' : List O), Keep hp hp' → hp.length ≤ H → hp'[H]? = some (.list (ys.map .int)) → ys.length = xs.length → Hops (g xs) xs.length a (g ys) → Q (.ref H) hp')
    (hb : (∀ a, v = .int a → 0 ≤ a → a < xs.length → False) → X (.ref 37) hp) : CallOK (pgo prog w p loose mean mg mb) (lev + 4) true ns 88 [.ref i, v] hp X Q := by
  refine fn_run (xs := ["land", "a"]) (fnAt_of rfl (by kernel_rfl) (fn2 fun _ _ => rfl) (by decide) (by decide) rfl rfl rfl) rfl (by decide +kernel) fun c hc => ?_
  repeat' walk_at "vc"
  refine need_hill_ok hx (by omega) hv (fun a ea a0 a1 => ?_) (fun z => hb z)
  have q := hg a ea a0 a1
  clear hg hb hv
  subst ea
  have sx : Side (xs.length < 2 ^ 62) := ⟨by omega⟩
  repeat' walk_at "vc"
  · exact sx
  refine bin_rep (by walk_at "hp") ⟨by omega, by simp only [List.length_cons, List.length_nil]; omega, by omega⟩ ?_
  rw [reps]
  repeat' walk_at "vc"
  refine st_ref (by walk_at "hp") ⟨a0, by rw [List.length_map, List.length_replicate]; omega, by omega⟩ ?_
  rw [← List.map_set (f := V.int)]
  have hk : Keep hp ((hp ++ [O.list [.int (-1)]] ++ [O.list ((List.replicate (xs.length : Int).toNat (-1 : Int)).map .int)]).set (hp ++ [O.list [V.int (-1)]]).length (O.list (((List.replicate (xs.length : Int).toNat (-1 : Int)).set a.toNat 0).map .int))) := (Keep.refl.app.app).set (by simp)
  have hf : ((hp ++ [O.list [.int (-1)]] ++ [O.list ((List.replicate (xs.length : Int).toNat (-1 : Int)).map .int)]).set (hp ++ [O.list [V.int (-1)]]).length (O.list (((List.replicate (xs.length : Int).toNat (-1 : Int)).set a.toNat 0).map .int)))[(hp ++ [O.list [V.int (-1)]]).length]? = some (O.list (((List.replicate (xs.length : Int).toNat (-1 : Int)).set a.toNat 0).map .int)) := set_at app_new
  have hH : hp.length ≤ (hp ++ [O.list [V.int (-1)]]).length := by simp
  generalize (hp ++ [O.list [.int (-1)]] ++ [O.list ((List.replicate (xs.length : Int).toNat (-1 : Int)).map .int)]).set (hp ++ [O.list [V.int (-1)]]).length (O.list (((List.replicate (xs.length : Int).toNat (-1 : Int)).set a.toNat 0).map .int)) = hp₁ at hk hf ⊢
  generalize (hp ++ [O.list [V.int (-1)]]).length = H at hf hH ⊢
  have fl : ((List.replicate (xs.length : Int).toNat (-1 : Int)).set a.toNat 0).length = xs.length := by simp
  have R0 : Row (g xs) xs.length a 0 [a] (g ((List.replicate (xs.length : Int).toNat (-1 : Int)).set a.toNat 0)) := by
    refine Row.first a0 a1 (g_set a0 (by simpa using a1)) fun x x0 x1 ne => ?_
    rw [g_set_ne a0 x0 ne]
    unfold g
    rw [List.getD_eq_getElem?_getD, List.getElem?_replicate]
    rw [if_pos (by omega)]
    rfl
  have N0 : neg ((List.replicate (xs.length : Int).toNat (-1 : Int)).set a.toNat 0) + 1 ≤ 256 := by
    rw [neg_set (by simp; omega) (by simp) (by omega)]
    unfold neg
    exact Nat.le_trans List.countP_le_length (by simpa using hl)
  generalize (List.replicate (xs.length : Int).toNat (-1 : Int)).set a.toNat 0 = fd₀ at hf fl R0 N0
  repeat' walk_at "vc"
  refine ss_cut (fun l hp' => ∃ ys : List Int, l "found" = some (.ref H) ∧ Keep hp hp' ∧ hp'[H]? = some (.list (ys.map .int)) ∧ ys.length = xs.length ∧ Hops (g xs) xs.length a (g ys)) ?_ ?_
  · refine s_while (fun m l hp' => ∃ (fd row : List Int) (L : Int) (j : Nat), Keep hp hp' ∧ hp'[H]? = some (.list (fd.map .int)) ∧ hp'[j]? = some (.list (row.map .int)) ∧ H < j ∧ fd.length = xs.length ∧ Row (g xs) xs.length a L row (g fd) ∧ neg fd + row.length ≤ 256 ∧ m = neg fd + (if row = [] then 0 else 1) ∧ l "land" = some (.ref i) ∧ l "found" = some (.ref H) ∧ l "row" = some (.ref j))
      (neg fd₀ + 1) ⟨fd₀, [a], 0, hp₁.length, hk.app, app_get hf, app_new, get_lt hf, fl, R0, N0, rfl, by walk_at "nm", by walk_at "nm", by walk_at "nm"⟩ ?_
    clear R0 N0 fl hf hk fd₀ hp₁
    rintro m l hp₁ ⟨fd, row, L, j, hk, hf, hr, hj, fl, R, hN, rfl, g1, g2, g3⟩
    have sr : Side (row.length < 2 ^ 62) := ⟨by omega⟩
    repeat' walk_at "vc"
    · exact sr
    refine if_decide (fun z => ?_) (fun z => ?_)
    rotate_left
    · have : row = [] := List.eq_nil_of_length_eq_zero (by omega)
      subst this
      exact ⟨rfl, fd, g2, hk, hf, fl, R.hops a0 a1⟩
    have rne : row ≠ [] := fun e => by subst e; simp at z
    rw [if_neg rne]
    repeat' walk_at "vc"
    have hF : H < hp₁.length := get_lt hf
    have hjF : j < hp₁.length := get_lt hr
    have hk' : Keep hp (hp₁ ++ [O.list []]) := hk.app
    have hf' : (hp₁ ++ [O.list []])[H]? = some (.list (fd.map .int)) := app_get hf
    have hr' : (hp₁ ++ [O.list []])[j]? = some (.list (row.map .int)) := app_get hr
    have hn' : (hp₁ ++ [O.list []])[hp₁.length]? = some (O.list (([] : List Int).map .int)) := app_new
    generalize hp₁ ++ [O.list []] = hp₂ at hk' hf' hr' hn' ⊢
    generalize hp₁.length = F at hF hjF hn' ⊢
    refine ss_cut (fun l hp' => ∃ (fd' fresh : List Int), Keep hp hp' ∧ hp'[H]? = some (.list (fd'.map .int)) ∧ hp'[F]? = some (.list (fresh.map .int)) ∧ fd'.length = xs.length ∧ Mid (g xs) xs.length a L row row.length [] (g fd') fresh ∧ neg fd' + fresh.length = neg fd ∧ l "land" = some (.ref i) ∧ l "found" = some (.ref H) ∧ l "fresh" = some (.ref F)) ?_ ?_
    · refine s_for1 (by walk_at "cx") (by kernel_rfl) rfl ?_
      refine i_val ?_
      repeat' walk_at "vc"
      refine srv_ref (by walk_at "cx") hr' ?_
      refine ⟨fun k l hp' => ∃ (fd' fresh : List Int), Keep hp hp' ∧ hp'[H]? = some (.list (fd'.map .int)) ∧ hp'[j]? = some (.list (row.map .int)) ∧ hp'[F]? = some (.list (fresh.map .int)) ∧ fd'.length = xs.length ∧ Mid (g xs) xs.length a L row k [] (g fd') fresh ∧ neg fd' + fresh.length = neg fd ∧ l "land" = some (.ref i) ∧ l "found" = some (.ref H) ∧ l "fresh" = some (.ref F), ⟨fd, [], hk', hf', hr', hn', fl, R.mid, rfl, by walk_at "nm", by walk_at "nm", by walk_at "nm"⟩, fun k l hp' ⟨_, _, _, _, h, _⟩ => h, ?_, ?_⟩
      · clear g1 g2 g3 hk' hf' hr' hn' hp₂ hk hf hr hp₁ l
        rintro k kl l hp₁ ⟨fd', fresh, hk, hf, hr, hn, fl', M, hN', g1, g2, g3⟩
        have kr : k < row.length := by simpa using kl
        rw [List.getElem_map]
        have pm : row[k] ∈ row := List.getElem_mem kr
        obtain ⟨⟨p0, p1⟩, pe⟩ := (M.rws _).mp pm
        generalize hpl : row[k] = pl at pm p0 p1 pe ⊢
        refine ss_cons ?_
        refine s_for1 (by walk_at "cx") (by kernel_rfl) rfl ?_
        refine i_val ?_
        repeat' walk_at "vc"
        refine view_ok (hk _ _ hx) (by omega) trivial (fun a' ea _ _ j1 j2 j3 => ?_) (fun z => (z pl rfl p0 p1).elim)
        cases ea
        have hk' : Keep hp (hp₁ ++ [j1] ++ [j2] ++ [j3] ++ [O.list ((dueB (g xs) pl xs.length).map .int)]) := hk.app.app.app.app
        have hf' := app_get (t := [O.list ((dueB (g xs) pl xs.length).map .int)]) (app_get (t := [j3]) (app_get (t := [j2]) (app_get (t := [j1]) hf)))
        have hr' := app_get (t := [O.list ((dueB (g xs) pl xs.length).map .int)]) (app_get (t := [j3]) (app_get (t := [j2]) (app_get (t := [j1]) hr)))
        have hn' := app_get (t := [O.list ((dueB (g xs) pl xs.length).map .int)]) (app_get (t := [j3]) (app_get (t := [j2]) (app_get (t := [j1]) hn)))
        have hv' := app_new (hp := hp₁ ++ [j1] ++ [j2] ++ [j3]) (o := O.list ((dueB (g xs) pl xs.length).map .int))
        have hFV : F < (hp₁ ++ [j1] ++ [j2] ++ [j3]).length := by have := get_lt hn; simp; omega
        generalize hp₁ ++ [j1] ++ [j2] ++ [j3] ++ [O.list ((dueB (g xs) pl xs.length).map .int)] = hp₂ at hk' hf' hr' hn' hv' ⊢
        generalize (hp₁ ++ [j1] ++ [j2] ++ [j3]).length = D at hv' hFV ⊢
        refine srv_ref (by walk_at "cx") hv' ?_
        refine ⟨fun m l hp' => ∃ (fd' fresh : List Int), Keep hp hp' ∧ hp'[H]? = some (.list (fd'.map .int)) ∧ hp'[j]? = some (.list (row.map .int)) ∧ hp'[F]? = some (.list (fresh.map .int)) ∧ hp'[D]? = some (.list ((dueB (g xs) pl xs.length).map .int)) ∧ fd'.length = xs.length ∧ Mid (g xs) xs.length a L row k ((dueB (g xs) pl xs.length).take m) (g fd') fresh ∧ neg fd' + fresh.length = neg fd ∧ l "land" = some (.ref i) ∧ l "found" = some (.ref H) ∧ l "fresh" = some (.ref F) ∧ l "place" = some (.int pl), ⟨fd', fresh, hk', hf', hr', hn', hv', fl', M, hN', by walk_at "nm", by walk_at "nm", by walk_at "nm", by walk_at "nm"⟩, fun k l hp' ⟨_, _, _, _, _, _, h, _⟩ => h, ?_, ?_⟩
        · clear g1 g2 g3 hk' hf' hr' hn' hv' M hN' fl' pe fd' fresh hp₂ hk hf hr hn l hp₁
          rintro m ml l hp₁ ⟨fd', fresh, hk, hf, hr, hn, hd, fl', M, hN', g1, g2, g3, g4⟩
          have mr : m < (dueB (g xs) pl xs.length).length := by simpa using ml
          rw [List.getElem_map]
          have om : (dueB (g xs) pl xs.length)[m] ∈ dueB (g xs) pl xs.length := List.getElem_mem mr
          have tk := List.take_add_one (l := dueB (g xs) pl xs.length) (i := m)
          rw [List.getElem?_eq_getElem mr] at tk
          generalize (dueB (g xs) pl xs.length)[m] = ot at om tk ⊢
          obtain ⟨⟨o0, o1⟩, oa⟩ := mem_dueB.mp om
          have so : Side (0 ≤ ot ∧ ot < fd'.length ∧ fd'.length < 2 ^ 62) := ⟨by omega⟩
          have sp : Side (0 ≤ pl ∧ pl < fd'.length ∧ fd'.length < 2 ^ 62) := ⟨by omega⟩
          obtain ⟨_, pe⟩ := (M.rws _).mp pm
          refine ss_if ?_
          repeat' walk_at "vc"
          · exact so
          refine if_decide (fun z => ?_) (fun z => ?_)
          · repeat' walk_at "vc"
            · exact sp
            refine st_ref hf ⟨o0, by rw [List.length_map]; omega, by omega⟩ ?_
            rw [← List.map_set (f := V.int)]
            have hn2 : (hp₁.set H (O.list ((fd'.set ot.toNat (g fd' pl + 1)).map .int)))[F]? = some (.list (fresh.map .int)) := set_get hn (by omega)
            repeat' walk_at "vc"
            · exact ⟨by rw [List.length_map, sizeLine_eq]; omega⟩
            rw [map_app]
            have hz : (fd'.set ot.toNat (g fd' pl + 1)).length = xs.length := by rw [List.length_set]; exact fl'
            have hng : neg (fd'.set ot.toNat (g fd' pl + 1)) + 1 = neg fd' := neg_set (by omega) (by rw [g_nat (by omega), show ((ot.toNat : Nat) : Int) = ot by omega]; exact z) (by have := M.lv; omega)
            refine ⟨_, fresh ++ [ot], (hk.set hH).set (by omega), set_get (i := F) (set_at hf) (by omega), set_get (i := F) (set_get (i := H) hr (by omega)) (by omega), set_at (set_get (i := H) hn (by omega)), set_get (i := F) (set_get (i := H) hd (by omega)) (by omega), hz, ?_, ?_, by walk_at "nm", by walk_at "nm", by walk_at "nm", by walk_at "nm"⟩
            · rw [tk]
              exact M.take pm o0 o1 z oa (g_set o0 (by omega)) (fun x x0 x1 ne => g_set_ne o0 x0 ne) a0 a1
            · rw [List.length_append, List.length_singleton]; omega
          · repeat' walk_at "vc"
            refine ⟨fd', fresh, hk, hf, hr, hn, hd, fl', ?_, hN', by walk_at "nm", by walk_at "nm", by walk_at "nm", by walk_at "nm"⟩
            rw [tk]
            exact M.skip o0 o1 (by omega)
        · rintro l hp' ⟨fd', fresh, hk, hf, hr, hn, hd, fl', M, hN', g1, g2, g3, g4⟩
          rw [List.length_map, List.take_length] at M
          subst hpl
          repeat' walk_at "vc"
          exact ⟨fd', fresh, hk, hf, hr, hn, fl', M.next kr fun y y0 y1 ay => mem_dueB.mpr ⟨⟨y0, y1⟩, ay⟩, hN', g1, g2, g3⟩
      · rintro l hp' ⟨fd', fresh, hk, hf, hr, hn, fl', M, hN', g1, g2, g3⟩
        rw [List.length_map] at M
        exact ⟨rfl, fd', fresh, hk, hf, hn, fl', M, hN', g1, g2, g3⟩
    · rintro l hp' ⟨fd', fresh, hk, hf, hn, fl', M, hN', g1, g2, g3⟩
      repeat' walk_at "vc"
      refine ⟨neg fd' + (if fresh = [] then 0 else 1), ?_, fd', fresh, L + 1, F, hk, hf, hn, hF, fl', M.row', by omega, rfl, by walk_at "nm", by walk_at "nm", by walk_at "nm"⟩
      split
      · omega
      · rename_i ne
        have : 0 < fresh.length := List.length_pos_iff.mpr ne
        omega
  · rintro l hp' ⟨ys, g1, hk, hf, yl, hy⟩
    repeat' walk_at "vc"
    exact q ys H hp' hk hH hf yl hy

theorem near_ok {X : Value → List O → Prop} {Q : V → List O → Prop} {hp : List O} {i : Nat} {xs : List Int} {b : Int} (hx : hp[i]? = some (.list (xs.map .int))) (s : Side (0 ≤ b ∧ b < xs.length ∧ xs.length < 2 ^ 20)) (h : Q (.ref hp.length) (hp ++ [.list ((dueB (g xs) b xs.length).map .int)])) : CallOK (pgo prog w p loose mean mg mb) (lev + 2) true ns 140 [.ref i, .int b] hp X Q := by
  refine fn_run (xs := ["_law_land", "_law_b"]) (fnAt_of rfl (by kernel_rfl) (fn2 fun _ _ => rfl) (by decide) (by decide) rfl rfl rfl) rfl (by decide +kernel) fun c hc => ?_
  have s' := s.h
  repeat' walk_at "vc"
  have sx : Side (xs.length < 2 ^ 62) := ⟨by omega⟩
  refine ss_cut (fun l hp' => hp' = hp ++ [.list ((dueB (g xs) b xs.length).map .int)] ∧ l "_law_found" = some (.ref hp.length)) ?_ ?_
  · refine s_for1 (by walk_at "cx") (by kernel_rfl) rfl ?_
    refine i_range (by walk_at "cx") gl_range (by kernel_rfl) rfl ?_
    repeat' walk_at "vc"
    all_goals try walk_at "side"
    refine ⟨fun k l' hp' => hp' = hp ++ [.list ((dueB (g xs) b k).map .int)] ∧ l' "_law_found" = some (.ref hp.length) ∧ l' "_law_land" = some (.ref i) ∧ l' "_law_b" = some (.int b), ⟨rfl, by walk_at "nm", by walk_at "nm", by walk_at "nm"⟩, fun _ _ _ _ => trivial, ?_, ?_⟩
    · rintro k hk l' hp' ⟨rfl, g1, g2, g3⟩
      rw [rngItems_get, Int.zero_add]
      rw [rngItems_length] at hk
      have ds := dueB_succ (g xs) b k
      have sa : Side (((dueB (g xs) b k).map V.int).length ≤ sizeLine) := ⟨by have := dueB_len (g xs) b k; rw [List.length_map, sizeLine_eq]; omega⟩
      refine ss_if ?_
      repeat' walk_at "vc"
      refine if_ndecide (fun ne => ?_) (fun e => ?_)
      · repeat' walk_at "vc"
        rw [min_eq, max_eq, Int.min_comm, Int.max_comm]
        refine seen_by_ok (app_get hx) ⟨by omega⟩ (fun z => ?_) (fun z => ?_)
        · rw [if_pos ⟨ne, z⟩] at ds
          repeat' walk_at "vc"
          · exact sa
          refine ⟨?_, by walk_at "nm", by walk_at "nm", by walk_at "nm"⟩
          rw [ds, set_new, map_app]
        · rw [if_neg (fun y => z y.2), List.append_nil] at ds
          repeat' walk_at "vc"
          exact ⟨by rw [ds], by walk_at "nm", by walk_at "nm", by walk_at "nm"⟩
      · rw [if_neg (fun y => y.1 e), List.append_nil] at ds
        repeat' walk_at "vc"
        exact ⟨by rw [ds], by walk_at "nm", by walk_at "nm", by walk_at "nm"⟩
    · rintro l' hp' ⟨rfl, g1, g2, g3⟩
      rw [rngItems_length, show ((xs.length : Int)).toNat = xs.length by omega]
      exact ⟨rfl, rfl, g1⟩
  rintro l hp' ⟨rfl, g1⟩
  repeat' walk_at "vc"
  exact h

theorem sb_trail {c : Cx} {X : XP} {l : Lo} {hp : List O} {K : KV} {i : Nat} {h : Int → Int} {a : Int} {k : Nat} (e : hp[i]? = some (.list ((trail h a k).map .int))) (hk : k < 1000) (q : K (.int (itr h a k)) l hp) : Sub c X (.ref i) (.int (-1)) l hp K := by
  refine sb_neg e ⟨by rw [List.length_map, trail_len]; omega⟩ ?_ q
  rw [List.length_map, trail_len, show (-1 + ((k + 1 : Nat) : Int)).toNat = k by omega]
  exact trail_get h a k
theorem nxl_of {f : Int → Int} {n : Nat} {b x : Int} {d : Int → Int} (h : Hops f n b d) (x0 : 0 ≤ x) (x1 : x < n) : ((dueB f x n).filter fun y => decide (d y = d x - 1)) = nxl f n b x := by
  unfold nxl
  refine List.filter_congr fun y hy => ?_
  obtain ⟨⟨y0, y1⟩, _⟩ := mem_dueB.mp hy
  rw [hd_eq h y y0 y1, hd_eq h x x0 x1]
theorem nxl_len (f : Int → Int) (n : Nat) (b x : Int) : (nxl f n b x).length ≤ n := Nat.le_trans (List.length_filter_le _ _) (dueB_len f x n)
theorem way_ok {X : Value → List O → Prop} {Q : V → List O → Prop} {hp : List O} {i : Nat} {xs : List Int} {va vb : V} (hx : hp[i]? = some (.list (xs.map .int))) (hl : xs.length ≤ 256) (hva : Plain hp va) (hvb : Plain hp vb)
    (hg : ∀ a b : Int, va = .int a → vb = .int b → (0 ≤ a ∧ a < xs.length) → (0 ≤ b ∧ b < xs.length) → Hops (g xs) xs.length b (hd (g xs) xs.length b) → ∀ (H : Nat) (hp' : List O), Keep hp hp' → hp.length ≤ H → hp'[H]? = some (.list ((trail (nx (g xs) xs.length b) a (hd (g xs) xs.length b a).toNat).map .int)) → Q (.ref H) hp')
    (hb : (∀ a b : Int, va = .int a → vb = .int b → (0 ≤ a ∧ a < xs.length) → (0 ≤ b ∧ b < xs.length) → False) → X (.ref 37) hp) : CallOK (pgo prog w p loose mean mg mb) (lev + 5) true ns 93 [.ref i, va, vb] hp X Q := by
  refine fn_run (xs := ["land", "a", "b"]) (fnAt_of rfl (by kernel_rfl) (fn3 fun _ _ _ => rfl) (by decide) (by decide) rfl rfl rfl) rfl (by decide +kernel) fun c hc => ?_
  repeat' walk_at "vc"
  refine need_hill_ok hx (by omega) hva (fun a ea a0 a1 => ?_) (fun z => hb fun a b ea eb ha _ => z a ea ha.1 ha.2)
  repeat' walk_at "vc"
  refine hops_ok hx hl hvb (fun b eb b0 b1 ys L hp₁ k1 k2 k3 k4 k5 => ?_) (fun z => hb fun a b ea eb _ hb => z b eb hb.1 hb.2)
  have H := hd_ok k5
  have q := hg a b ea eb ⟨a0, a1⟩ ⟨b0, b1⟩ H
  clear hg hb hva hvb
  subst ea eb
  have hLt : L < hp₁.length := get_lt k3
  repeat' walk_at "vc"
  have hk0 : Keep hp (hp₁ ++ [O.list [V.int a]]) := k1.app
  have hy0 : (hp₁ ++ [O.list [V.int a]])[L]? = some (.list (ys.map .int)) := app_get k3
  have hf0 : (hp₁ ++ [O.list [V.int a]])[hp₁.length]? = some (.list ((trail (nx (g xs) xs.length b) a 0).map .int)) := app_new
  have hFl : hp.length ≤ hp₁.length := by omega
  generalize hp₁ ++ [O.list [V.int a]] = hp₂ at hk0 hy0 hf0 ⊢
  generalize hp₁.length = F at hLt hf0 hFl ⊢
  clear k1 k3 hp₁
  have dn := H.near b0 b1
  refine ss_cut (fun l hp' => l "found" = some (.ref F) ∧ Keep hp hp' ∧ hp'[F]? = some (.list ((trail (nx (g xs) xs.length b) a (hd (g xs) xs.length b a).toNat).map .int))) ?_ ?_
  · refine s_while (fun m l hp' => ∃ k : Nat, m + k = (hd (g xs) xs.length b a).toNat ∧ Trl (g xs) xs.length b a k ∧ Keep hp hp' ∧ hp'[L]? = some (.list (ys.map .int)) ∧ hp'[F]? = some (.list ((trail (nx (g xs) xs.length b) a k).map .int)) ∧ l "land" = some (.ref i) ∧ l "b" = some (.int b) ∧ l "left" = some (.ref L) ∧ l "found" = some (.ref F))
      (hd (g xs) xs.length b a).toNat ⟨0, rfl, Trl.zero a0 a1, hk0, hy0, hf0, by walk_at "nm", by walk_at "nm", by walk_at "nm", by walk_at "nm"⟩ ?_
    clear hk0 hy0 hf0 hp₂
    rintro m l hp₁ ⟨k, hm, T, hk, hy, hf, g1, g2, g3, g4⟩
    have da := dn a a0 a1
    have d0 := H.nn a a0 a1
    have kl : k < 1000 := by omega
    repeat' (first | refine sb_trail hf kl ?_ | walk_at "vc")
    refine if_ndecide (fun ne => ?_) (fun e => ?_)
    rotate_left
    · have := T.fin H e
      subst this
      exact ⟨rfl, g4, hk, hf⟩
    have T' := T.succ H ne
    have i0 := T.i0
    have i1 := T.i1
    have n0 := H.nn _ T'.i0 T'.i1
    have hk' := T'.hk
    have nm := nx_mem H i0 i1 ne
    have ts := trail_succ (nx (g xs) xs.length b) a k
    repeat' (first | refine sb_trail hf kl ?_ | walk_at "vc")
    generalize itr (nx (g xs) xs.length b) a k = he at i0 i1 ne nm ts ⊢
    repeat' walk_at "vc"
    refine i_val ?_
    repeat' walk_at "vc"
    refine view_ok (hk _ _ hx) (by omega) trivial (fun a' ea _ _ j1 j2 j3 => ?_) (fun z => (z he rfl i0 i1).elim)
    cases ea
    have hy' := app_get (t := [O.list ((dueB (g xs) he xs.length).map .int)]) (app_get (t := [j3]) (app_get (t := [j2]) (app_get (t := [j1]) hy)))
    have hf' := app_get (t := [O.list ((dueB (g xs) he xs.length).map .int)]) (app_get (t := [j3]) (app_get (t := [j2]) (app_get (t := [j1]) hf)))
    have hk2 : Keep hp (hp₁ ++ [j1] ++ [j2] ++ [j3] ++ [O.list ((dueB (g xs) he xs.length).map .int)]) := hk.app.app.app.app
    have hv' := app_new (hp := hp₁ ++ [j1] ++ [j2] ++ [j3]) (o := O.list ((dueB (g xs) he xs.length).map .int))
    have hFV : F < (hp₁ ++ [j1] ++ [j2] ++ [j3]).length := by have := get_lt hf; simp; omega
    generalize hp₁ ++ [j1] ++ [j2] ++ [j3] ++ [O.list ((dueB (g xs) he xs.length).map .int)] = hp₂ at hk2 hf' hy' hv' ⊢
    generalize (hp₁ ++ [j1] ++ [j2] ++ [j3]).length = D at hv' hFV ⊢
    clear hk hy hf hp₁
    have hdl := dueB_len (g xs) he xs.length
    have sy : Side (0 ≤ he ∧ he < ys.length ∧ ys.length < 2 ^ 62) := ⟨by omega⟩
    refine srv_ref (by walk_at "cx") hv' ?_
    refine comp_filt (by walk_at "cx") (by kernel_rfl) (fun y => decide (g ys y = g ys he - 1)) (by rw [List.length_map, sizeLine_eq]; omega) (fun vs => app_get hv') ?_ ?_
    · intro y hym vs
      obtain ⟨⟨y0, y1⟩, _⟩ := mem_dueB.mp hym
      have sy' : Side (0 ≤ y ∧ y < ys.length ∧ ys.length < 2 ^ 62) := ⟨by omega⟩
      refine ⟨_, tgt1, fun c' hc' => ?_⟩
      repeat' walk_at "vc"
      all_goals first | exact sy | exact sy' | skip
      refine ⟨rfl, rfl, ?_⟩
      repeat' walk_at "vc"
      exact ⟨rfl, rfl⟩
    rw [nxl_of k5 i0 i1]
    have hnl := nxl_len (g xs) xs.length b he
    have hn0 : 0 < (nxl (g xs) xs.length b he).length := by
      have := nm.1
      rcases Nat.lt_or_ge 0 (nxl (g xs) xs.length b he).length with q | q
      · exact q
      · rw [List.getElem?_eq_none q] at this; cases this
    have hne : g (nxl (g xs) xs.length b he) 0 = nx (g xs) xs.length b he := by
      show (nxl (g xs) xs.length b he).getD (0 : Int).toNat 0 = _
      rw [List.getD_eq_getElem?_getD, show (0 : Int).toNat = 0 from rfl, nm.1]
      rfl
    have hf2 : (hp₂ ++ [O.list ((nxl (g xs) xs.length b he).map .int)])[F]? = some (.list ((trail (nx (g xs) xs.length b) a k).map .int)) := app_get hf'
    repeat' walk_at "vc"
    all_goals first | exact ⟨by omega⟩ | exact ⟨by rw [List.length_map, trail_len, sizeLine_eq]; omega⟩ | skip
    rw [hne, map_app, ← ts]
    refine ⟨m - 1, by omega, k + 1, by omega, T', (hk2.app).set (by omega), set_get (app_get hy') (by omega), set_at hf2, by walk_at "nm", by walk_at "nm", by walk_at "nm", by walk_at "nm"⟩
  rintro l hp' ⟨g1, hk, hf⟩
  repeat' walk_at "vc"
  exact q F hp' hk hFl hf

theorem refused_bad {X : Value → List O → Prop} {Q : V → List O → Prop} {hp : List O} {i : Nat} {xs : List Int} {va vb : V} (hx : hp[i]? = some (.list (xs.map .int))) (hl : Side (xs.length ≤ 256)) (hva : Plain hp va) (hvb : Plain hp vb)
    (hbad : ∀ a b : Int, va = .int a → vb = .int b → (0 ≤ a ∧ a < xs.length) → (0 ≤ b ∧ b < xs.length) → False) (h : Q (.bool true) hp) : CallOK (pgo prog w p loose mean mg mb) (lev + 6) true ns 152 [.ref i, va, vb] hp X Q := by
  refine fn_run (xs := ["_law_land", "_law_a", "_law_b"]) (fnAt_of rfl (by kernel_rfl) (fn3 fun _ _ _ => rfl) (by decide) (by decide) rfl rfl rfl) rfl (by decide +kernel) fun c hc => ?_
  refine ss_cons (s_try ?_)
  repeat' walk_at "vc"
  refine way_ok hx hl.h hva hvb (fun a b ea eb ha hb => (hbad a b ea eb ha hb).elim) (fun z => ?_)
  repeat' walk_at "vc"
  exact h

/-- the rows of what each place sees -/
def Rows (f : Int → Int) (n : Nat) (hp : List O) (rs : List Nat) : Prop := rs.length = n ∧ ∀ (j : Nat) (r : Nat), rs[j]? = some r → hp[r]? = some (.list ((dueB f j n).map .int))
theorem Rows.keep {f : Int → Int} {n : Nat} {hp hp' : List O} {rs : List Nat} (h : Rows f n hp rs) (k : Keep hp hp') : Rows f n hp' rs := ⟨h.1, fun j r e => k _ _ (h.2 j r e)⟩
theorem Rows.at {f : Int → Int} {n : Nat} {hp : List O} {rs : List Nat} (h : Rows f n hp rs) {x : Int} (x0 : 0 ≤ x) (x1 : x < n) : ∃ r, (rs.map V.ref)[x.toNat]? = some (.ref r) ∧ hp[r]? = some (.list ((dueB f x n).map .int)) := by
  have hl : x.toNat < rs.length := by rw [h.1]; omega
  refine ⟨rs[x.toNat], by rw [List.getElem?_map, List.getElem?_eq_getElem hl]; rfl, ?_⟩
  have := h.2 x.toNat _ (List.getElem?_eq_getElem hl)
  rwa [show ((x.toNat : Nat) : Int) = x by omega] at this
theorem left_by_ok {X : Value → List O → Prop} {Q : V → List O → Prop} {hp : List O} {i : Nat} {f : Int → Int} {n : Nat} {rs : List Nat} {b : Int} {d : Int → Int} (hi : hp[i]? = some (.list (rs.map .ref))) (hr : Rows f n hp rs) (s : Side (0 ≤ b ∧ b < n ∧ n ≤ 256)) (H : Hops f n b d)
    (h : ∀ (ys : List Int) (L : Nat) (hp' : List O), Keep hp hp' → hp.length ≤ L → hp'[L]? = some (.list (ys.map .int)) → ys.length = n → (∀ x : Int, 0 ≤ x → x < n → g ys x = d x) → Q (.ref L) hp') : CallOK (pgo prog w p loose mean mg mb) (lev + 1) true ns 145 [.ref i, .int b] hp X Q := by
  refine fn_run (xs := ["_law_rows", "_law_b"]) (fnAt_of rfl (by kernel_rfl) (fn2 fun _ _ => rfl) (by decide) (by decide) rfl rfl rfl) rfl (by decide +kernel) fun c hc => ?_
  obtain ⟨b0, b1, hn⟩ := s.h
  have rl := hr.1
  have sr : Side ((rs.map V.ref).length < 2 ^ 63) := ⟨by rw [List.length_map]; omega⟩
  have dn := H.near b0 b1
  repeat' walk_at "vc"
  refine i_val ?_
  repeat' walk_at "vc"
  refine srv_ref (by walk_at "cx") hi ?_
  refine comp_ints (by walk_at "cx") (by kernel_rfl) (fun _ x => x = n) (by rw [List.length_map, sizeLine_eq]; omega) (fun vs => app_get hi) ?_ ?_
  · intro k hk vs hv
    refine ⟨_, tgt1, fun c' hc' => ?_⟩
    repeat' (first | walk_at "vc" | refine cb_len_ref (app_get hi) sr ?_)
    exact ⟨rfl, _, rfl, by rw [List.length_map, rl]⟩
  intro ys hy hR
  rw [List.length_map, rl] at hy
  repeat' walk_at "vc"
  refine st_ref app_new ⟨b0, by rw [List.length_map]; omega, by omega⟩ ?_
  rw [← List.map_set (f := V.int)]
  have hk0 : Keep hp ((hp ++ [O.list (ys.map .int)]).set hp.length (O.list ((ys.set b.toNat 0).map .int))) := (Keep.refl.app).set (Nat.le_refl _)
  have hf0 : ((hp ++ [O.list (ys.map .int)]).set hp.length (O.list ((ys.set b.toNat 0).map .int)))[hp.length]? = some (.list ((ys.set b.toNat 0).map .int)) := set_at app_new
  have R0 : Rnd d n 0 0 (g (ys.set b.toNat 0)) := by
    refine Rnd.zero H b0 b1 (g_set b0 (by omega)) fun x x0 x1 ne => ?_
    rw [g_set_ne b0 x0 ne]
    have := hR x.toNat (by omega)
    rwa [g_nat (by omega), show ((x.toNat : Nat) : Int) = x by omega] at this
  have fl0 : (ys.set b.toNat 0).length = n := by rw [List.length_set]; exact hy
  generalize (hp ++ [O.list (ys.map .int)]).set hp.length (O.list ((ys.set b.toNat 0).map .int)) = hp₁ at hk0 hf0 ⊢
  generalize ys.set b.toNat 0 = fd₀ at hf0 R0 fl0
  generalize hFe : hp.length = F at hf0 ⊢
  have hFl : hp.length ≤ F := by omega
  clear hR hy ys
  repeat' walk_at "vc"
  refine ss_cut (fun l hp' => ∃ fd : List Int, l "_law_found" = some (.ref F) ∧ Keep hp hp' ∧ hp'[F]? = some (.list (fd.map .int)) ∧ fd.length = n ∧ Rnd d n n 0 (g fd)) ?_ ?_
  · refine s_for1 (by walk_at "cx") (by kernel_rfl) rfl ?_
    refine i_range (by walk_at "cx") gl_range (by kernel_rfl) rfl ?_
    repeat' (first | walk_at "vc" | refine cb_len_ref (hk0 _ _ hi) sr ?_)
    · exact ⟨by rw [List.length_map]; omega⟩
    refine ⟨fun m l hp' => ∃ fd : List Int, Keep hp hp' ∧ hp'[F]? = some (.list (fd.map .int)) ∧ fd.length = n ∧ Rnd d n m 0 (g fd) ∧ l "_law_found" = some (.ref F) ∧ l "_law_rows" = some (.ref i), ⟨fd₀, hk0, hf0, fl0, R0, by walk_at "nm", by walk_at "nm"⟩, fun _ _ _ _ => trivial, ?_, ?_⟩
    rotate_left
    · rintro l hp' ⟨fd, h1, h2, h3, h4, h5, h6⟩
      rw [rngItems_length, List.length_map, rl, show ((n : Int)).toNat = n by omega] at h4
      exact ⟨rfl, fd, h5, h1, h2, h3, h4⟩
    clear hk0 hf0 R0 fl0 fd₀ hp₁
    rintro m hm l hp₁ ⟨fd, hk, hf, fl, R, g1, g2⟩
    rw [rngItems_get, Int.zero_add]
    rw [rngItems_length, List.length_map, rl] at hm
    have mn : (m : Int) < n := by omega
    have m0 : 0 ≤ (m : Int) := by omega
    refine ss_cons ?_
    refine s_for1 (by walk_at "cx") (by kernel_rfl) rfl ?_
    refine i_range (by walk_at "cx") gl_range (by kernel_rfl) rfl ?_
    repeat' (first | walk_at "vc" | refine cb_len_ref (hk _ _ hi) sr ?_)
    · exact ⟨by rw [List.length_map]; omega⟩
    refine ⟨fun e l hp' => ∃ fd : List Int, Keep hp hp' ∧ hp'[F]? = some (.list (fd.map .int)) ∧ fd.length = n ∧ Rnd d n m e (g fd) ∧ l "_law_found" = some (.ref F) ∧ l "_law_rows" = some (.ref i) ∧ l "_law_many" = some (.int m), ⟨fd, hk, hf, fl, R, by walk_at "nm", by walk_at "nm", by walk_at "nm"⟩, fun _ _ _ _ => trivial, ?_, ?_⟩
    rotate_left
    · rintro l hp' ⟨fd, h1, h2, h3, h4, h5, h6, h7⟩
      rw [rngItems_length, List.length_map, rl, show ((n : Int)).toNat = n by omega] at h4
      repeat' walk_at "vc"
      exact ⟨fd, h1, h2, h3, by rw [show ((m + 1 : Nat) : Int) = (m : Int) + 1 by omega]; exact h4.next, h5, h6⟩
    clear hk hf R fl g1 g2 fd l hp₁
    rintro e he l hp₁ ⟨fd, hk, hf, fl, R, g1, g2, g3⟩
    rw [rngItems_get, Int.zero_add]
    rw [rngItems_length, List.length_map, rl] at he
    have e0 : 0 ≤ (e : Int) := by omega
    have e1 : (e : Int) < n := by omega
    have ec : ((e + 1 : Nat) : Int) = (e : Int) + 1 := by omega
    generalize hex : (e : Int) = x at R e0 e1 ec ⊢
    have sx : Side (0 ≤ x ∧ x < fd.length ∧ fd.length < 2 ^ 62) := ⟨by omega⟩
    refine ss_if ?_
    repeat' walk_at "vc"
    · exact sx
    refine if_decide (fun q1 => ?_) (fun q1 => ?_)
    rotate_left
    · repeat' walk_at "vc"
      exact ⟨fd, hk, hf, fl, by rw [ec]; exact R.keep1 H dn e0 e1 q1, by walk_at "nm", by walk_at "nm", by walk_at "nm"⟩
    obtain ⟨r, r1, r2⟩ := (hr.keep hk).at e0 e1
    have hdl := dueB_len f x n
    repeat' walk_at "vc"
    refine i_val ?_
    repeat' walk_at "vc"
    refine sb_ref (hk _ _ hi) ⟨by omega⟩ r1 ?_
    refine srv_ref (by walk_at "cx") r2 ?_
    refine comp_gen (by walk_at "cx") (by kernel_rfl) (fun j v => ∀ hj : j < (dueB f x n).length, v = .bool (decide (g fd (dueB f x n)[j] = m))) (by rw [List.length_map, sizeLine_eq]; omega) (fun vs => app_get r2) ?_ ?_
    · intro k hk' vs hv _
      refine ⟨_, tgt1, fun c' hc' => ?_⟩
      rw [List.getElem_map]
      have hm : (dueB f x n)[k]'(by simpa using hk') ∈ dueB f x n := List.getElem_mem _
      generalize hde : (dueB f x n)[k]'(by simpa using hk') = y at hm ⊢
      obtain ⟨⟨y0, y1⟩, ay⟩ := mem_dueB.mp hm
      have sy : Side (0 ≤ y ∧ y < fd.length ∧ fd.length < 2 ^ 62) := ⟨by omega⟩
      repeat' walk_at "vc"
      · exact sy
      exact ⟨rfl, fun _ => by rw [hde]⟩
    intro vs hv hall
    have hb : vs = ((dueB f x n).map fun y => decide (g fd y = m)).map V.bool := by
      rw [List.length_map] at hv
      refine List.ext_getElem (by simp [hv]) fun j h1 h2 => ?_
      rw [hall j h1 (by omega)]
      simp
    subst hb
    have hf' := app_get (t := [O.list (((dueB f x n).map fun y => decide (g fd y = m)).map V.bool)]) hf
    have hk' : Keep hp (hp₁ ++ [O.list (((dueB f x n).map fun y => decide (g fd y = m)).map V.bool)]) := hk.app
    repeat' walk_at "vc"
    refine cb_any (by walk_at "cx") (by walk_at "hp") ?_
    generalize hp₁ ++ [O.list (((dueB f x n).map fun y => decide (g fd y = m)).map V.bool)] = hp₂ at hf' hk' ⊢
    clear hk hf hall hv r2
    repeat' walk_at "vc"
    refine if_b (fun q2 => ?_) (fun q2 => ?_)
    rotate_left
    · have c2 : ¬ ∃ k ∈ dueB f x n, g fd k = m := by
        rintro ⟨k, k1, k2⟩
        rw [List.any_eq_false] at q2
        exact q2 true (List.mem_map.mpr ⟨k, k1, decide_eq_true k2⟩) rfl
      repeat' walk_at "vc"
      exact ⟨fd, hk', hf', fl, by rw [ec]; exact R.keep2 H m0 mn e0 e1 c2, by walk_at "nm", by walk_at "nm", by walk_at "nm"⟩
    have c2 : ∃ k ∈ dueB f x n, g fd k = m := by
      rw [List.any_eq_true] at q2
      obtain ⟨z, z1, z2⟩ := q2
      obtain ⟨k, k1, k2⟩ := List.mem_map.mp z1
      exact ⟨k, k1, by rw [← k2] at z2; simpa using z2⟩
    repeat' walk_at "vc"
    refine st_ref hf' ⟨e0, by rw [List.length_map]; omega, by omega⟩ ?_
    rw [← List.map_set (f := V.int)]
    repeat' walk_at "vc"
    refine ⟨fd.set x.toNat ((m : Int) + 1), hk'.set hFl, set_at hf', by rw [List.length_set]; exact fl, by rw [ec]; exact R.set H mn e0 e1 q1 c2 (g_set e0 (by omega)) (fun y y0 y1 ne => g_set_ne e0 y0 ne), by walk_at "nm", by walk_at "nm", by walk_at "nm"⟩
  rintro l hp' ⟨fd, g1, hk, hf, fl, R⟩
  repeat' walk_at "vc"
  exact h fd F hp' hk hFl hf fl fun x x0 x1 => R.fin dn x x0 x1

theorem trail_get' (h : Int → Int) (a : Int) (k j : Nat) (hj : j < (trail h a k).length) : (trail h a k)[j] = itr h a j := by simp [trail]
theorem known_ok {X : Value → List O → Prop} {Q : V → List O → Prop} {hp : List O} (hn : ns.length < 2 ^ 62) (h : ∀ hp', Q (.bool true) hp') : CallOK (pgo prog w p loose mean mg mb) (lev + 6) true ns 157 [.scr] hp X Q := by
  refine fn_run (xs := ["_law_script"]) (fnAt_of rfl (by kernel_rfl) (fn1 fun _ => rfl) (by decide) (by decide) rfl rfl rfl) rfl (by decide +kernel) fun c hc => ?_
  repeat' (first | walk_at "vc" | refine cell_at_ok hn ?_ ?_)
  all_goals try walk_at "side"
  have m1 := Int.emod_lt_of_pos (cell ns 1) (b := 51) (by omega)
  have m0 := Int.emod_nonneg (cell ns 1) (b := 51) (by omega)
  have szn : 150 ≤ 150 + cell ns 1 % 51 ∧ 150 + cell ns 1 % 51 ≤ 200 := ⟨by omega, by omega⟩
  generalize 150 + cell ns 1 % 51 = n at szn ⊢
  have a1 := Int.emod_lt_of_pos (cell ns 1 / 51) (b := n) (by omega)
  have a0 := Int.emod_nonneg (cell ns 1 / 51) (b := n) (by omega)
  have b1 := Int.emod_lt_of_pos (cell ns 2 / 9) (b := n) (by omega)
  have b0 := Int.emod_nonneg (cell ns 2 / 9) (b := n) (by omega)
  have sn : Side (0 < n) := ⟨by omega⟩
  repeat' (first | walk_at "vc" | refine cell_at_ok hn ?_ ?_)
  all_goals try walk_at "side"
  generalize cell ns 1 / 51 % n = a at a0 a1 ⊢
  generalize cell ns 2 / 9 % n = b at b0 b1 ⊢
  generalize cell ns 0 % 9 - 4 = t
  refine i_range (by walk_at "cx") gl_range (by kernel_rfl) rfl ?_
  repeat' walk_at "vc"
  · exact ⟨by omega⟩
  refine comp_ints (by walk_at "cx") (by kernel_rfl) (fun k x => x = t * k + 7) (by rw [rngItems_length, sizeLine_eq]; omega) (fun _ => trivial) ?_ ?_
  · intro k hk vs hv
    refine ⟨_, tgt1, fun c' hc' => ?_⟩
    rw [rngItems_get, Int.zero_add]
    rw [rngItems_length] at hk
    repeat' walk_at "vc"
    · exact ⟨.inr (by omega)⟩
    exact ⟨rfl, _, rfl, rfl⟩
  intro ys hy hR
  rw [rngItems_length] at hy
  have hf : ∀ x : Int, 0 ≤ x → x < ys.length → g ys x = t * x + 7 := fun x x0 x1 => by
    have := hR x.toNat (by omega)
    rw [g_nat (by omega), show ((x.toNat : Nat) : Int) = x by omega] at this
    exact this
  have lh := line_hops (f := g ys) (n := ys.length) hf b0 (by omega)
  have hda := hd_eq lh a a0 (by omega)
  repeat' walk_at "vc"
  refine ss_if ?_
  repeat' walk_at "vc"
  refine if_decide (fun q => ?_) (fun q => ?_)
  · have hda' : (hd (g ys) ys.length b a).toNat = (b - a).toNat := by rw [← hda]; unfold dis; split <;> omega
    repeat' walk_at "vc"
    refine way_ok app_new (by omega) trivial trivial (fun a' b' ea eb _ _ _ H hp' k1 k2 k3 => ?_) (fun z => (z a b rfl rfl ⟨a0, by omega⟩ ⟨b0, by omega⟩).elim)
    cases ea; cases eb
    rw [hda'] at k3
    repeat' walk_at "vc"
    refine i_range (by walk_at "cx") gl_range (by kernel_rfl) rfl ?_
    repeat' walk_at "vc"
    · exact ⟨by omega⟩
    refine comp_ints (by walk_at "cx") (by kernel_rfl) (fun k x => x = a + k) (by rw [rngItems_length, sizeLine_eq]; omega) (fun _ => trivial) ?_ ?_
    · intro k hk vs hv
      refine ⟨_, tgt1, fun c' hc' => ?_⟩
      rw [rngItems_get]
      repeat' walk_at "vc"
      exact ⟨rfl, _, rfl, rfl⟩
    intro ws hw hW
    rw [rngItems_length] at hw
    have ez : trail (nx (g ys) ys.length b) a (b - a).toNat = ws := by
      refine List.ext_getElem (by rw [trail_len, hw]; omega) fun j j1 j2 => ?_
      rw [trail_get', hW j j2]
      rw [trail_len] at j1
      exact line_up hf a0 (by omega) q j (by omega)
    rw [ez] at k3
    repeat' (first | walk_at "vc" | refine cmp_ints_eq (app_get k3) app_new ?_)
    rw [show decide (ws = ws) = true by simp]
    exact h _
  · have hda' : (hd (g ys) ys.length b a).toNat = (a - b).toNat := by rw [← hda]; unfold dis; split <;> omega
    repeat' walk_at "vc"
    refine way_ok app_new (by omega) trivial trivial (fun a' b' ea eb _ _ _ H hp' k1 k2 k3 => ?_) (fun z => (z a b rfl rfl ⟨a0, by omega⟩ ⟨b0, by omega⟩).elim)
    cases ea; cases eb
    rw [hda'] at k3
    repeat' walk_at "vc"
    refine i_range (by walk_at "cx") gl_range (by kernel_rfl) rfl ?_
    repeat' walk_at "vc"
    · exact ⟨by omega⟩
    refine comp_ints (by walk_at "cx") (by kernel_rfl) (fun k x => x = a - k) (by rw [rngItems_length, sizeLine_eq]; omega) (fun _ => trivial) ?_ ?_
    · intro k hk vs hv
      refine ⟨_, tgt1, fun c' hc' => ?_⟩
      rw [rngItems_get, Int.zero_add]
      repeat' walk_at "vc"
      exact ⟨rfl, _, rfl, rfl⟩
    intro ws hw hW
    rw [rngItems_length] at hw
    have ez : trail (nx (g ys) ys.length b) a (a - b).toNat = ws := by
      refine List.ext_getElem (by rw [trail_len, hw]; omega) fun j j1 j2 => ?_
      rw [trail_get', hW j j2]
      rw [trail_len] at j1
      exact line_down hf (by omega) b0 (by omega) j (by omega)
    rw [ez] at k3
    repeat' (first | walk_at "vc" | refine cmp_ints_eq (app_get k3) app_new ?_)
    rw [show decide (ws = ws) = true by simp]
    exact h _

theorem bools_of {vs : List V} {b : Bool} (h : ∀ (j : Nat) (hj : j < vs.length), vs[j] = .bool b) : vs = (List.replicate vs.length b).map V.bool := by
  refine List.ext_getElem (by simp) fun j h1 h2 => ?_
  rw [h j h1]
  simp
theorem law_ok {s₁ : Shared} {fa a : Addr} {vals : List Value} {R : Result → Shared → Prop}
    (T : Top p loose mean mg mb s₁.heap) (KX : (Mine.hd09.heap_1 w.params).In s₁.heap) (hmg : mg "law" = some (.ref fa)) (hL : s₁.heap.IsList a vals.toArray) (hI : IntsAre vals ns) (hn : ns.length ≤ 63)
    (hR : ∀ s' m', Fr s₁.heap s₁.heap.objs.size s'.heap m' → s'.gens = s₁.gens → s'.os = s₁.os → R (.ok (.ret (.bool true))) s') : codeAny (model prog w) callerA (.call (.ref fa) ⟨[.ref a], []⟩) R s₁ := by
  refine law_go (pg := pgo prog w p loose mean mg mb) (f := 162) (x := "_law_script") T KX hmg hL hI hn (by kernel_rfl) (fnAt_of rfl (by kernel_rfl) (fn1 fun _ => rfl) (by decide) (by decide) rfl rfl rfl) (by decide +kernel) hR fun c hc => ?_
  have hn' : ns.length < 2 ^ 62 := by omega
  refine ss_if ?_
  repeat' (first | walk_at "vc" | refine cell_at_ok hn' ?_ ?_)
  all_goals try walk_at "side"
  refine if_decide (fun q => ?_) (fun q => ?_)
  · repeat' walk_at "vc"
    refine known_ok hn' (fun hp' => ?_)
    repeat' walk_at "vc"
    exact rfl
  repeat' walk_at "vc"
  refine land_by_ok hn' (by walk_at "side") (fun xs₀ x1 x2 => ?_)
  repeat' walk_at "vc"
  refine ss_cut (fun l hp => ∃ (i : Nat) (xs : List Int), hp[i]? = some (.list (xs.map .int)) ∧ 1 ≤ xs.length ∧ xs.length ≤ 200 ∧ l "_law_land" = some (.ref i) ∧ l "_law_script" = some .scr) ?_ ?_
  · refine s_if ?_
    repeat' (first | walk_at "vc" | refine cell_at_ok hn' ?_ ?_)
    all_goals try walk_at "side"
    refine if_decide (fun q => ?_) (fun q => ?_)
    · repeat' (first | walk_at "vc" | refine cell_at_ok hn' ?_ ?_)
      all_goals try walk_at "side"
      have hm : 0 ≤ (16 : Int) + 30 * (if (!decide (cell ns 0 / 12 % 5 = 3)) = true then 1 else 0) ∧ (16 : Int) + 30 * (if (!decide (cell ns 0 / 12 % 5 = 3)) = true then 1 else 0) ≤ 50 := by split <;> decide
      generalize (16 : Int) + 30 * (if (!decide (cell ns 0 / 12 % 5 = 3)) = true then 1 else 0) = mm at hm ⊢
      repeat' (first | walk_at "vc" | refine longer_ok hn' (by walk_at "hp") ⟨by omega⟩ (fun ys hy => ?_))
      exact ⟨rfl, _, ys, by walk_at "hp", by omega, by omega, by walk_at "nm", by walk_at "nm"⟩
    · repeat' walk_at "vc"
      exact ⟨rfl, _, xs₀, by walk_at "hp", by omega, by omega, by walk_at "nm", by walk_at "nm"⟩
  rintro l hp ⟨i, xs, hi, hx1, hx2, l1, l2⟩
  clear x1 x2
  have sx : Side (xs.length < 2 ^ 62) := ⟨by omega⟩
  have sz' : Side ((xs.map V.int).length ≤ sizeLine) := ⟨by rw [List.length_map, sizeLine_eq]; omega⟩
  have sp : Side (0 < (xs.length : Int)) := ⟨by omega⟩
  have ma := Int.emod_lt_of_pos (cell ns 1 / 9) (b := xs.length) (by omega)
  have ma' := Int.emod_nonneg (cell ns 1 / 9) (b := xs.length) (by omega)
  have mb := Int.emod_lt_of_pos (cell ns 2 / 7) (b := xs.length) (by omega)
  have mb' := Int.emod_nonneg (cell ns 2 / 7) (b := xs.length) (by omega)
  repeat' (first | walk_at "vc" | refine cell_at_ok hn' ?_ ?_)
  all_goals try walk_at "side"
  generalize ea : cell ns 1 / 9 % (xs.length : Int) = a at ma ma' ⊢
  generalize eb : cell ns 2 / 7 % (xs.length : Int) = b at mb mb' ⊢
  have hi' : (hp ++ [O.list (xs.map V.int)])[i]? = some (.list (xs.map .int)) := app_get hi
  have hh' : (hp ++ [O.list (xs.map V.int)])[hp.length]? = some (.list (xs.map .int)) := app_new
  have hne : i ≠ hp.length := by have := get_lt hi; omega
  generalize hp ++ [O.list (xs.map V.int)] = hp₀ at hi' hh' ⊢
  generalize hp.length = ih at hh' hne ⊢
  clear hi hp
  refine ss_if ?_
  repeat' (first | walk_at "vc" | refine cell_at_ok hn' ?_ ?_)
  all_goals try walk_at "side"
  refine if_decide (fun q => ?_) (fun q => ?_)
  · repeat' (first | walk_at "vc" | refine cell_at_ok hn' ?_ ?_)
    all_goals try walk_at "side"
    refine sb_all (by walk_at "hp") ?_ (fun v hv => ?_)
    · refine ⟨?_⟩
      simp only [List.length_cons, List.length_nil]
      omega
    have bad : Plain (hp₀ ++ [O.list [.int 1]] ++ [O.list [.int (-1), .int xs.length, .int 1000000000, .bool true, .str "0", .none, .int (-xs.length), .bool false, .tup [.int 0], .ref hp₀.length]]) v ∧ ∀ z : Int, v = .int z → 0 ≤ z → z < xs.length → False := by
      simp only [List.mem_cons, List.not_mem_nil, or_false] at hv
      rcases hv with rfl | rfl | rfl | rfl | rfl | rfl | rfl | rfl | rfl | rfl
      all_goals first
        | exact ⟨trivial, fun z e => by cases e; omega⟩
        | exact ⟨trivial, fun z e => by cases e⟩
        | exact ⟨⟨_, by walk_at "hp"⟩, fun z e => by cases e⟩
    obtain ⟨bad1, bad2⟩ := bad
    repeat' walk_at "vc"
    refine refused_bad (by walk_at "hp") ⟨by omega⟩ trivial bad1 (fun a' b' ea eb _ hb => bad2 b' eb hb.1 hb.2) ?_
    repeat' walk_at "vc"
    refine refused_bad (by walk_at "hp") ⟨by omega⟩ bad1 trivial (fun a' b' ea eb ha _ => bad2 a' ea ha.1 ha.2) ?_
    repeat' (first | walk_at "vc" | refine cmp_ints_eq (by walk_at "hp") (by walk_at "hp") ?_)
    rw [show decide (xs = xs) = true by simp]
  repeat' walk_at "vc"
  refine i_range (by walk_at "cx") gl_range (by kernel_rfl) rfl ?_
  repeat' walk_at "vc"
  · exact ⟨by omega⟩
  have hpl : hp₀.length ≤ hp₀.length := Nat.le_refl _
  refine comp_inv (by walk_at "cx") (by kernel_rfl) (fun k hp' => Keep hp₀ hp' ∧ ∃ rs : List Nat, rs.length = k ∧ hp'[hp₀.length]? = some (.list (rs.map .ref)) ∧ ∀ (j r : Nat), rs[j]? = some r → hp₀.length < r ∧ hp'[r]? = some (.list ((dueB (g xs) j xs.length).map .int))) ⟨Keep.refl.app, [], rfl, app_new, fun j r e => by simp at e⟩ (by rw [rngItems_length, sizeLine_eq]; omega) (fun _ _ _ => trivial) ?_ ?_
  · rintro k hk hp' ⟨hK, rs, r1, r2, r3⟩
    rw [rngItems_length] at hk
    refine ⟨_, tgt1, fun c' hc' => ?_⟩
    rw [rngItems_get, Int.zero_add]
    repeat' walk_at "vc"
    refine near_ok (hK _ _ hi') ⟨by omega⟩ ?_
    have hl' : hp₀.length < hp'.length := get_lt r2
    refine ⟨rs.map .ref, app_get r2, by rw [List.length_map, r1]; exact Nat.le_refl _, (hK.app).set (Nat.le_refl _), rs ++ [hp'.length], by simp [r1], ?_, fun j r e => ?_⟩
    · rw [set_at (app_get r2)]
      simp
    · rcases Nat.lt_or_ge j rs.length with z | z
      · rw [List.getElem?_append_left z] at e
        obtain ⟨q1, q2⟩ := r3 j r e
        exact ⟨q1, set_get (app_get q2) (by omega)⟩
      · rw [List.getElem?_append_right z] at e
        have : j = k := by
          rcases Nat.lt_or_ge (j - rs.length) 1 with y | y
          · omega
          · rw [List.getElem?_eq_none (by simpa using y)] at e; cases e
        subst this
        rw [r1, Nat.sub_self] at e
        cases e
        exact ⟨hl', set_get app_new (by omega)⟩
  rintro hp₁ ⟨hK, rs, r1, r2, r3⟩
  rw [rngItems_length] at r1
  have hrw : Rows (g xs) xs.length hp₁ rs := ⟨by omega, fun j r e => (r3 j r e).2⟩
  have hi := hK _ _ hi'
  have hh := hK _ _ hh'
  generalize hp₀.length = ri at r2 ⊢
  clear hi' hh' r3 hK hpl hp₀
  have sb : Side (0 ≤ b ∧ b < xs.length ∧ xs.length ≤ 256) := ⟨by omega⟩
  obtain ⟨d₀, D₀⟩ := hops_are (g xs) xs.length mb' mb
  have HH := hd_ok D₀
  have dn := HH.near mb' mb
  clear D₀ d₀
  repeat' walk_at "vc"
  refine left_by_ok r2 hrw sb HH (fun ys L hp k1 k2 k3 k4 k5 => ?_)
  have hi' := k1 _ _ hi
  have hh' := k1 _ _ hh
  have hr' := k1 _ _ r2
  have hrw' := hrw.keep k1
  clear hi hh r2 hrw k1 k2 hp₁
  repeat' walk_at "vc"
  have hK0 : Keep hp (hp ++ [O.list [V.int a]]) := Keep.refl.app
  have hf0 : (hp ++ [O.list [V.int a]])[hp.length]? = some (.list ((trail (nx (g xs) xs.length b) a 0).map .int)) := app_new
  generalize hp ++ [O.list [V.int a]] = hp₁ at hK0 hf0 ⊢
  have hFl : hp.length ≤ hp.length := Nat.le_refl _
  generalize hFe : hp.length = F at hf0 hFl ⊢
  refine ss_cut (fun l hp' => Keep hp hp' ∧ hp'[F]? = some (.list ((trail (nx (g xs) xs.length b) a (hd (g xs) xs.length b a).toNat).map .int)) ∧ l "_law_land" = some (.ref i) ∧ l "_law_handed" = some (.ref ih) ∧ l "_law_a" = some (.int a) ∧ l "_law_b" = some (.int b) ∧ l "_law_due" = some (.ref F)) ?_ ?_
  · refine s_while (fun m l hp' => ∃ k : Nat, m + k = (hd (g xs) xs.length b a).toNat ∧ Trl (g xs) xs.length b a k ∧ Keep hp hp' ∧ hp'[F]? = some (.list ((trail (nx (g xs) xs.length b) a k).map .int)) ∧ l "_law_land" = some (.ref i) ∧ l "_law_handed" = some (.ref ih) ∧ l "_law_a" = some (.int a) ∧ l "_law_b" = some (.int b) ∧ l "_law_due" = some (.ref F) ∧ l "_law_rows" = some (.ref ri) ∧ l "_law_left" = some (.ref L))
      (hd (g xs) xs.length b a).toNat ⟨0, rfl, Trl.zero ma' ma, hK0, hf0, by walk_at "nm", by walk_at "nm", by walk_at "nm", by walk_at "nm", by walk_at "nm", by walk_at "nm", by walk_at "nm"⟩ ?_
    clear hK0 hf0 hp₁
    rintro m l hp₁ ⟨k, hm, T, hk, hf, g1, g2, g3, g4, g5, g6, g7⟩
    have da := dn a ma' ma
    have d0 := HH.nn a ma' ma
    have kl : k < 1000 := by omega
    repeat' (first | refine sb_trail hf kl ?_ | walk_at "vc")
    refine if_ndecide (fun ne => ?_) (fun e => ?_)
    rotate_left
    · have := T.fin HH e
      subst this
      exact ⟨rfl, hk, hf, g1, g2, g3, g4, g5⟩
    have T' := T.succ HH ne
    have i0 := T.i0
    have i1 := T.i1
    have n0 := HH.nn _ T'.i0 T'.i1
    have hk' := T'.hk
    have nm := nx_mem HH i0 i1 ne
    have ts := trail_succ (nx (g xs) xs.length b) a k
    repeat' (first | refine sb_trail hf kl ?_ | walk_at "vc")
    generalize itr (nx (g xs) xs.length b) a k = he at i0 i1 ne nm ts ⊢
    obtain ⟨r, q1, q2⟩ := (hrw'.keep hk).at i0 i1
    have hdl := dueB_len (g xs) he xs.length
    have sy : Side (0 ≤ he ∧ he < ys.length ∧ ys.length < 2 ^ 62) := ⟨by omega⟩
    have hy := hk _ _ k3
    repeat' walk_at "vc"
    refine i_val ?_
    repeat' walk_at "vc"
    refine sb_ref (hk _ _ hr') ⟨by omega⟩ q1 ?_
    refine srv_ref (by walk_at "cx") q2 ?_
    refine comp_filt (by walk_at "cx") (by kernel_rfl) (fun y => decide (g ys y = g ys he - 1)) (by rw [List.length_map, sizeLine_eq]; omega) (fun vs => app_get q2) ?_ ?_
    · intro y hym vs
      obtain ⟨⟨y0, y1⟩, _⟩ := mem_dueB.mp hym
      have sy' : Side (0 ≤ y ∧ y < ys.length ∧ ys.length < 2 ^ 62) := ⟨by omega⟩
      refine ⟨_, tgt1, fun c' hc' => ?_⟩
      repeat' walk_at "vc"
      all_goals first | exact sy | exact sy' | skip
      refine ⟨rfl, rfl, ?_⟩
      repeat' walk_at "vc"
      exact ⟨rfl, rfl⟩
    have hnx : ((dueB (g xs) he xs.length).filter fun y => decide (g ys y = g ys he - 1)) = nxl (g xs) xs.length b he := by
      unfold nxl
      refine List.filter_congr fun y hy => ?_
      obtain ⟨⟨y0, y1⟩, _⟩ := mem_dueB.mp hy
      rw [k5 y y0 y1, k5 he i0 i1]
    rw [hnx]
    have hn0 : 0 < (nxl (g xs) xs.length b he).length := by
      have := nm.1
      rcases Nat.lt_or_ge 0 (nxl (g xs) xs.length b he).length with q | q
      · exact q
      · rw [List.getElem?_eq_none q] at this; cases this
    repeat' walk_at "vc"
    refine cb_minL (by walk_at "cx") (by walk_at "hp") ⟨hn0⟩ (fun M hM hl => ?_)
    have eM := nx_min hM hl
    subst eM
    have hf2 : (hp₁ ++ [O.list ((nxl (g xs) xs.length b he).map .int)])[F]? = some (.list ((trail (nx (g xs) xs.length b) a k).map .int)) := app_get hf
    repeat' walk_at "vc"
    · exact ⟨by rw [List.length_map, trail_len, sizeLine_eq]; omega⟩
    rw [map_app, ← ts]
    refine ⟨m - 1, by omega, k + 1, by omega, T', (hk.app).set (by omega), set_at hf2, by walk_at "nm", by walk_at "nm", by walk_at "nm", by walk_at "nm", by walk_at "nm", by walk_at "nm", by walk_at "nm"⟩
  clear hK0 hf0 hp₁
  have tl := trail_len (nx (g xs) xs.length b) a (hd (g xs) xs.length b a).toNat
  have da := dn a ma' ma
  have d0 := HH.nn a ma' ma
  rintro l hp₁ ⟨hk, hf, g1, g2, g3, g4, g5⟩
  generalize htr : trail (nx (g xs) xs.length b) a (hd (g xs) xs.length b a).toNat = tr at hf tl
  have hi := hk _ _ hi'
  have hh := hk _ _ hh'
  clear hi' hh' hr' hrw' k3 k5 hk hFe hFl hp
  repeat' walk_at "vc"
  refine way_ok hh (by omega) trivial trivial (fun a' b' ea eb _ _ _ H hp k1 k2 k3 => ?_) (fun z => (z a b rfl rfl ⟨ma', ma⟩ ⟨mb', mb⟩).elim)
  cases ea; cases eb
  rw [htr] at k3
  have hi' := k1 _ _ hi
  have hh' := k1 _ _ hh
  have hf' := k1 _ _ hf
  have hFH : F < H := by have := get_lt hf; omega
  have hiH : i < H := by have := get_lt hi; omega
  have hhH : ih < H := by have := get_lt hh; omega
  clear hi hh hf k1 k2 hp₁
  repeat' walk_at "vc"
  refine ss_if ?_
  repeat' (first | walk_at "vc" | refine cmp_ints_ne (by walk_at "hp") (by walk_at "hp") ?_)
  rw [show decide (xs = xs) = true by simp]
  repeat' walk_at "vc"
  refine ss_if ?_
  repeat' walk_at "vc"
  refine i_val ?_
  repeat' walk_at "vc"
  refine srv_ref (by walk_at "cx") k3 ?_
  have szt : (tr.map V.int).length ≤ sizeLine := by rw [List.length_map, sizeLine_eq]; omega
  refine comp_gen (by walk_at "cx") (by kernel_rfl) (fun _ v => v = .bool true) szt (fun vs => app_get k3) ?_ ?_
  · intro k hk vs hv _
    refine ⟨_, tgt1, fun c' hc' => ?_⟩
    rw [List.getElem_map]
    repeat' (first | walk_at "vc" | refine whole_ok ?_)
    exact ⟨rfl, rfl⟩
  intro vs hv hall
  have hb := bools_of hall
  generalize vs.length = nv at hb
  subst hb
  have hi := app_get (t := [O.list ((List.replicate nv true).map .bool)]) hi'
  have hh := app_get (t := [O.list ((List.replicate nv true).map .bool)]) hh'
  have hf := app_get (t := [O.list ((List.replicate nv true).map .bool)]) hf'
  have hw := app_get (t := [O.list ((List.replicate nv true).map .bool)]) k3
  repeat' walk_at "vc"
  refine cb_all (by walk_at "cx") (by walk_at "hp") ?_
  rw [show (List.replicate nv true).all id = true by simp]
  generalize hp ++ [O.list ((List.replicate nv true).map .bool)] = hp₁ at hi hh hf hw ⊢
  clear hi' hh' hf' k3 hv hall hp
  repeat' walk_at "vc"
  refine ss_if ?_
  repeat' (first | walk_at "vc" | refine cmp_ints_ne (by walk_at "hp") (by walk_at "hp") ?_)
  rw [show decide (tr = tr) = true by simp]
  repeat' walk_at "vc"
  · exact ⟨szt⟩
  rw [map_app]
  have hi2 := set_get (o' := O.list ((tr ++ [-1]).map .int)) hi (i := H) (by omega)
  have hh2 := set_get (o' := O.list ((tr ++ [-1]).map .int)) hh (i := H) (by omega)
  have hf2 := set_get (o' := O.list ((tr ++ [-1]).map .int)) hf (i := H) (by omega)
  have hw2 := set_at (o' := O.list ((tr ++ [-1]).map .int)) hw
  generalize hp₁.set H (O.list ((tr ++ [-1]).map .int)) = hp at hi2 hh2 hf2 hw2 ⊢
  clear hi hh hf hw hp₁
  repeat' walk_at "vc"
  refine way_ok hh2 (by omega) trivial trivial (fun a' b' ea eb _ _ _ H2 hp₁ k1 k2 k3 => ?_) (fun z => (z a b rfl rfl ⟨ma', ma⟩ ⟨mb', mb⟩).elim)
  cases ea; cases eb
  rw [htr] at k3
  have hf := k1 _ _ hf2
  have hw := k1 _ _ hw2
  repeat' (first | walk_at "vc" | refine cmp_ints_eq (by walk_at "hp") (by walk_at "hp") ?_)
  rw [show decide (tr = tr) = true by simp]
  repeat' walk_at "vc"
  · exact ⟨by rw [List.length_map, List.length_singleton, sizeLine_eq]; omega⟩
  refine cmp_ints_eq (xs := tr ++ [-1]) (ys := tr ++ [-1]) (app_get (app_get hw)) (by rw [← map_app]; exact app_new) ?_
  rw [show decide (tr ++ [-1] = tr ++ [-1]) = true by simp]

end
end Mine
open PySem PySem.W PySem.Calls PySem.Spec PyProof.Rows
set_option maxRecDepth 100000 in
set_option maxHeartbeats 8000000 in
theorem PySem.Challenge.cw_uf050038_09_holds : PySem.Challenge.rw_uf050038_09.Holds :=
  Mine.both_of Mine.hd09 Mine.left09 (by
  intro w s₀ s₁ mg mb G Y fa o pm cd doc dV kV ho hd hcd hD hmg hg args vals as hpre hlay hrd hwl hlo
  have KX := kIn_of Y
  refine Ground.open G ?_
  intro T B D TE TW
  wrow_args hpre hlay hrd hwl hlo
  all_goals first | refine callC_kw (enter_call ?_) | refine enter_call ?_ | refine callC_kw (enter_callW ?_) | refine enter_callW ?_
  refine codeAny_mono ?_ (fun _ _ g => GoodW.toG g)
  refine Mine.law_ok T KX hmg (by assumption) (by assumption) ?_ ?_
  · omega
  · intro s' m' F e1 e2
    refine goodW_bool F (e1.trans hg) (fun _ => rfl) ?_ e2
    wrow_post)
