import PyProof.Rows.All
import Wide.All
import OpenK.AllK
import Wide.FinOn
import PyProof.Rows.Many
import PyProof.WalksMore
import PyProof.PlainList
import PyProof.TupleKey
import PyProof.DictKinds
import OpenK.KMake
import PyProof.Rows.News
import OpenK.KWalk
import OpenK.KCell
import KE.KTryMore
import PyProof.Cells
import PyProof.Rows.Nodes
import PyProof.Rows.Chain
import PyProof.Rows.TupSub
import PyProof.Rows.Own
import PyProof.Rows.IntRules
import PyProof.Raises
import PyProof.Rules2
import PyProof.ForAny
import PyProof.Rows.SeqInts
import PyProof.IsRules
import PyProof.ListTruth
import PyProof.Truth
import PyProof.Rows.RuleB_small
import PyProof.Rows.RuleB_mul
import PyProof.Rows.RuleB_mod
import PyProof.Rows.RuleB_floordiv
import PyProof.Rows.RuleU_int
import PyProof.Rows.RuleC_int
import PyProof.Rows.EqDataRows
import PyProof.Rows.SeqMore
import PyProof.IsiPairs
import PyProof.IsiNone
import PyProof.IsInstanceH
import PyProof.WalkInts
import PyProof.ListCopy
import PyProof.RangeFor
import PyProof.Methods
import PyProof.PureCalls
import PyProof.ListIndex
import PyProof.ListIndexNeg
import PyProof.Conv_int_bool
import PyProof.FactsAll.list_3
import PyProof.Rows.RuleN_abs
import PyProof.Rows.StrTemp
import PyProof.Rows.Method
import PyProof.Rows.Exc
import PyProof.Rows.StrRules
import PyProof.CompFree
import PyProof.CompMap
import PyProof.Rows.TupIter
import PyProof.Rows.TupAssign
import PyProof.RulesAssignMore
import KE.KItem
import KE.KPop
import OpenK.KOwn
import KE.KSliceW
import KE.KRevSl
import PyProof.ConsumeWalk
import PyProof.ZipIter
import PyProof.Rows.ZipGen
import PyProof.LayNew
import KE.KIsAll
import PyProof.ExcArgs
import KE.KMulAny
import PyProof.Rows.SeqCalls
import KE.KEqDeep
import PyProof.FactsAll.tuple_2
import PyProof.Rows.TupTab
import PyProof.Rows.DictMade
import PyProof.DictRoadsH
import PyProof.Rows.SortRuns
import PyProof.Rows.SortShell
import KE.KSortTup
import PyProof.Rows.SortWalk
import PyProof.AssignAttr
import PyProof.Rows.AttrNode
import PyProof.TupleOfSeq
import PyProof.Rows.DictMod
import PyProof.StrOps2
import PySem.Challenge.RW_uf050038_12
set_option Elab.async false
set_option linter.all false
open PySem PySem.W PySem.Calls PySem.Spec PyProof.Rows

set_option autoImplicit false
namespace Mine
open PySem PySem.Calls PySem.Spec PyProof.Rows

/-! Abstract values and objects -/
inductive V where
  | none
  | bool (b : Bool)
  | int (n : Int)
  | str (s : Str)
  | tup (vs : List V)
  | ref (i : Nat)
  | scr
  | glob (v : Value)

inductive O where
  | list (vs : List V)
  | exn (C : Addr)
  | tab (ks : List (List Int))
  | inst (C : Addr) (j : Nat)
  | att (es : List (Str × V))
  | dic

structure St where
  loc : Str → Option V
  hp : List O

def setN (l : Str → Option V) (x : Str) (v : V) : Str → Option V := fun y => if y = x then some v else l y
def St.set (σ : St) (x : Str) (v : V) : St := ⟨setN σ.loc x v, σ.hp⟩

/-- where the abstract objects lie -/
structure Wd where
  al : List Addr
  tp : List (Addr × List Value)
  sc : Addr

def Wd.le (W W' : Wd) : Prop := W.al <+: W'.al ∧ (∀ t ∈ W.tp, t ∈ W'.tp) ∧ W.sc = W'.sc
theorem Wd.le.refl (W : Wd) : W.le W := ⟨List.prefix_refl _, fun _ h => h, rfl⟩
theorem Wd.le.trans {W W' W'' : Wd} (a : W.le W') (b : W'.le W'') : W.le W'' := ⟨a.1.trans b.1, fun t h => b.2.1 t (a.2.1 t h), a.2.2.trans b.2.2⟩

mutual
inductive VR (W : Wd) : V → Value → Prop
  | none : VR W .none .none
  | bool (b : Bool) : VR W (.bool b) (.bool b)
  | int (n : Int) (t : Tok) : VR W (.int n) (.int n t)
  | str (x : Str) (t : Tok) : VR W (.str x) (.str x t)
  | tup {vs : List V} {xs : List Value} {a : Addr} : (a, xs) ∈ W.tp → VRs W vs xs → VR W (.tup vs) (.ref a)
  | ref {i : Nat} {a : Addr} : W.al[i]? = some a → VR W (.ref i) (.ref a)
  | scr : VR W .scr (.ref W.sc)
  | glob (v : Value) : VR W (.glob v) v
inductive VRs (W : Wd) : List V → List Value → Prop
  | nil : VRs W [] []
  | cons {v : V} {vs : List V} {x : Value} {xs : List Value} : VR W v x → VRs W vs xs → VRs W (v :: vs) (x :: xs)
end

theorem prefix_get {α : Type} {l l' : List α} {i : Nat} {a : α} (h : l <+: l') (e : l[i]? = some a) : l'[i]? = some a := by
  obtain ⟨t, rfl⟩ := h
  rw [List.getElem?_append_left (by
    rcases Nat.lt_or_ge i l.length with q | q
    · exact q
    · rw [List.getElem?_eq_none q] at e; cases e)]
  exact e

mutual
theorem VR.mono {W W' : Wd} (h : W.le W') : ∀ {v : V} {x : Value}, VR W v x → VR W' v x
  | _, _, .none => .none
  | _, _, .bool b => .bool b
  | _, _, .int n t => .int n t
  | _, _, .str x t => .str x t
  | _, _, .tup m r => .tup (h.2.1 _ m) (VRs.mono h r)
  | _, _, .ref e => .ref (prefix_get h.1 e)
  | _, _, .scr => h.2.2 ▸ .scr
  | _, _, .glob v => .glob v
theorem VRs.mono {W W' : Wd} (h : W.le W') : ∀ {vs : List V} {xs : List Value}, VRs W vs xs → VRs W' vs xs
  | _, _, .nil => .nil
  | _, _, .cons a r => .cons (VR.mono h a) (VRs.mono h r)
end

theorem VRs.length {W : Wd} : ∀ {vs : List V} {xs : List Value}, VRs W vs xs → vs.length = xs.length
  | _, _, .nil => rfl
  | _, _, .cons _ r => by simp [VRs.length r]
theorem VRs.append {W : Wd} : ∀ {vs ws : List V} {xs ys : List Value}, VRs W vs xs → VRs W ws ys → VRs W (vs ++ ws) (xs ++ ys)
  | _, _, _, _, .nil => fun r => r
  | _, _, _, _, .cons a q => fun r => .cons a (VRs.append q r)
theorem VRs.get {W : Wd} : ∀ {vs : List V} {xs : List Value}, VRs W vs xs → ∀ {i : Nat} {v : V}, vs[i]? = some v → ∃ x, xs[i]? = some x ∧ VR W v x
  | _, _, .nil => by intro h; simp at h
  | _, _, .cons a r => by
    rename_i i v _ _ _ _
    intro h
    cases i with
    | zero => simp at h; subst h; exact ⟨_, rfl, a⟩
    | succ i => simpa using VRs.get r (by simpa using h)
theorem VRs.set {W : Wd} : ∀ {vs : List V} {xs : List Value}, VRs W vs xs → ∀ (i : Nat) {v : V} {x : Value}, VR W v x → VRs W (vs.set i v) (xs.set i x)
  | _, _, .nil, i, v, x, h => by simpa using .nil
  | _, _, .cons a r, 0, v, x, h => .cons h r
  | _, _, .cons a r, i + 1, v, x, h => .cons a (VRs.set r i h)
theorem VRs.take {W : Wd} : ∀ {vs : List V} {xs : List Value}, VRs W vs xs → ∀ (n : Nat), VRs W (vs.take n) (xs.take n)
  | _, _, _, 0 => by simpa using .nil
  | _, _, .nil, n + 1 => .nil
  | _, _, .cons a r, n + 1 => .cons a (VRs.take r n)
theorem VRs.drop {W : Wd} : ∀ {vs : List V} {xs : List Value}, VRs W vs xs → ∀ (n : Nat), VRs W (vs.drop n) (xs.drop n)
  | _, _, h, 0 => by simpa using h
  | _, _, .nil, n + 1 => by simpa using .nil
  | _, _, .cons a r, n + 1 => by simpa using VRs.drop r n

abbrev tupObj (xs : List Value) : Obj := { cls := .type "tuple", data := .seq xs.toArray 0 }
abbrev listObj (xs : List Value) (n : Nat) : Obj := { cls := .type "list", data := .seq xs.toArray n }

/-- the hash of a tuple of numbers -/
def tabHash (ks : List Int) : Int := reduceHash (Builtin.Tuple.tupleHashOf (ks.map hashInt))
def AttE (W : Wd) : List (Str × V) → List DictEntry → Prop
  | [], [] => True
  | (x, v) :: es, d :: ds => (∃ t, d.key = .str x t) ∧ VR W v d.val ∧ AttE W es ds
  | _, _ => False
theorem AttE.mono {W W' : Wd} (h : W.le W') : ∀ {es : List (Str × V)} {ds : List DictEntry}, AttE W es ds → AttE W' es ds
  | [], [], _ => trivial
  | (_, _) :: _, _ :: _, ⟨a, b, c⟩ => ⟨a, b.mono h, AttE.mono h c⟩
  | [], _ :: _, x => x.elim
  | _ :: _, [], x => x.elim

inductive OR (W : Wd) : O → Addr → Obj → Prop
  | list {a : Addr} {vs : List V} {xs : List Value} (n : Nat) : VRs W vs xs → OR W (.list vs) a (listObj xs n)
  | exn {a C : Addr} {ob : Obj} {vs : Array Value} : ob.cls = .ref C → ob.data = .fields vs → OR W (.exn C) a ob
  | tab {a : Addr} {ks : List (List Int)} {ob : Obj} {es : Array DictEntry} {ep : Nat} {xs : List (List Int × Addr × Value)} : (a == sysModules) = false → ob.ExactDict → ob.data = .dict es ep → es.toList = xs.map (fun x => (⟨tabHash x.1, .ref x.2.1, x.2.2⟩ : DictEntry)) →
      xs.map (·.1) = ks → ks.Nodup → (∀ x ∈ xs, ∃ us, (x.2.1, us) ∈ W.tp ∧ VRs W (x.1.map .int) us) → OR W (.tab ks) a ob
  | inst {a C dx : Addr} {j : Nat} : W.al[j]? = some dx → OR W (.inst C j) a (PySem.W.instObj C dx)
  | att {a : Addr} {es : List (Str × V)} {ds : List DictEntry} {ep : Nat} : AttE W es ds → OR W (.att es) a { cls := .type "dict", data := .dict ds.toArray ep }
  | dic {a : Addr} {ob : Obj} : ob.cls = .type "dict" → OR W .dic a ob

theorem OR.mono {W W' : Wd} (h : W.le W') {o : O} {a : Addr} {ob : Obj} : OR W o a ob → OR W' o a ob
  | .list n r => .list n (r.mono h)
  | .exn a b => .exn a b
  | .tab a b c d e f g => .tab a b c d e f fun x hx => let ⟨us, h1, h2⟩ := g x hx; ⟨us, h.2.1 _ h1, h2.mono h⟩
  | .inst e => .inst (prefix_get h.1 e)
  | .att c => .att (c.mono h)
  | .dic a => .dic a

end Mine

set_option autoImplicit false
namespace Mine
open PySem PySem.W PySem.Calls PySem.Spec PyProof.Rows

/-- the program, its world, what stands at its top -/
structure Pg where
  prog : Program
  w : World
  K : Frag
  p : Program
  loose : List Str
  mean : ExcName → Option Value
  mg : Str → Option Value
  mb : Str → Option Value

/-- the value of a name at the top -/
def Pg.gl (pg : Pg) (x : Str) : Option Value :=
  match nsIn pg.K mainGlobals x with
  | some (some v) => some v
  | some none => if x = "__name__" then none else bootBuiltins x
  | none => none

/-- a frame: what does not change while its body runs -/
structure Fx where
  pg : Pg
  A : Around
  env : Env
  fenv : Env
  outer : List Env
  A₀ : Around
  base : Heap
  h₀ : Heap
  L : Addr
  ex : List (Addr × Obj)
  s₀ : Shared
  sc : Addr
  ns : List Int
  lev : Nat
  mfix : Option (Str → Option Value)
  qt : Bool

abbrev Fx.M (fx : Fx) : Model := model fx.pg.prog fx.pg.w

/-- a name-space object says x is u -/
def NsSays (o : Obj) (x : Str) (u : Value) : Prop := ∃ es ep, o.data = .dict es ep ∧ StrKeys es ∧ nsFind es x = some u

inductive NameAt (fx : Fx) (m : Str → Option Value) (news : List (Addr × Obj)) (x : Str) (u : Value) : Prop
  | loc : fx.env.kindOf x = some .local → fx.env.locals = fx.L → m x = some u → NameAt fx m news x u
  | comp {o : Obj} : fx.env.kindOf x = some .local → (fx.env.locals, o) ∈ fx.ex → NsSays o x u → NameAt fx m news x u
  | cell {c : Addr} {o : Obj} : fx.env.kindOf x = some .cell ∨ fx.env.kindOf x = some .free → fx.env.cells.lookup x = some c → (c, o) ∈ news → o.data = .cell (some u) → NameAt fx m news x u

structure Core (fx : Fx) (σ : St) (W : Wd) (m : Str → Option Value) (news : List (Addr × Obj)) : Prop where
  nd : (news.map (·.1)).Nodup
  exs : ∀ p ∈ fx.ex, p ∈ news
  exd : ∀ p ∈ fx.ex, p.1 ∉ W.al
  aln : W.al.Nodup
  len : W.al.length = σ.hp.length
  obs : ∀ (i : Nat) (o : O), σ.hp[i]? = some o → ∃ a ob, W.al[i]? = some a ∧ (a, ob) ∈ news ∧ OR W o a ob
  tps : ∀ t ∈ W.tp, (t.1, tupObj t.2) ∈ news
  loc : ∀ x v, σ.loc x = some v → ∃ u, VR W v u ∧ NameAt fx m news x u
  cel : ∀ x c, fx.env.cells.lookup x = some c → c ∉ W.al ∧ ∃ o v, (c, o) ∈ news ∧ o.data = .cell v
  scc : W.sc = fx.sc
  mfx : ∀ m₀, fx.mfix = some m₀ → m = m₀
  ext : ∀ p ∈ fx.ex, ∀ t ∈ W.tp, p.1 ≠ t.1

structure Rep (fx : Fx) (σ : St) (W : Wd) (s : Shared) : Prop where
  rest : s = { fx.s₀ with heap := s.heap, toks := s.toks }
  more : ∃ g m news, KtsTurn (fx.outer.filterMap (·.frame)) fx.h₀ g ∧ Fr g fx.L s.heap m ∧ News g fx.L s.heap news ∧ Core fx σ W m news

theorem Rep.elim {fx : Fx} {σ : St} {W : Wd} {s : Shared} {P : Prop} (R : Rep fx σ W s) (k : s = { fx.s₀ with heap := s.heap, toks := s.toks } → ∀ g m news, KtsTurn (fx.outer.filterMap (·.frame)) fx.h₀ g → Fr g fx.L s.heap m → News g fx.L s.heap news → Core fx σ W m news → P) : P := by
  obtain ⟨e, g, m, news, G, F, N, C⟩ := R
  exact k e g m news G F N C
theorem rest_with {s s₀ : Shared} (e : s = { s₀ with heap := s.heap, toks := s.toks }) (h : Heap) (t : Nat) : ({ s with heap := h, toks := t } : Shared) = { s₀ with heap := h, toks := t } := by
  rw [e]

theorem frKeeps {h₀ h h' : Heap} {L : Addr} {m : Str → Option Value} (F : Fr h₀ L h m) (k : ∀ b o, h.get? b = some o → h'.get? b = some o) : Fr h₀ L h' m :=
  ⟨F.ns.keeps k, fun b o e => k b o (F.keep b o e), F.above⟩
theorem newsKeeps {h₀ h h' : Heap} {L : Addr} {news : List (Addr × Obj)} (N : News h₀ L h news) (k : ∀ b o, h.get? b = some o → h'.get? b = some o) : News h₀ L h' news :=
  fun p hp => ⟨k _ _ (N p hp).1, (N p hp).2⟩

theorem Rep.keep {fx : Fx} {σ : St} {W : Wd} {s : Shared} (R : Rep fx σ W s) {h' : Heap} (tk : Nat) (k : ∀ b o, s.heap.get? b = some o → h'.get? b = some o) : Rep fx σ W { s with heap := h', toks := tk } := by
  refine R.elim fun e g m news G F N C => ?_
  exact ⟨rest_with e _ _, g, m, news, G, frKeeps F k, newsKeeps N k, C⟩

theorem Rep.toks {fx : Fx} {σ : St} {W : Wd} {s : Shared} (R : Rep fx σ W s) (tk : Nat) : Rep fx σ W { s with toks := tk } := by
  refine R.elim fun e g m news G F N C => ?_
  exact ⟨rest_with e _ _, g, m, news, G, F, N, C⟩

theorem newsNodup {h₀ h : Heap} {L : Addr} {news : List (Addr × Obj)} (N : News h₀ L h news) (nd : (news.map (·.1)).Nodup) (o : Obj) : (((h.objs.size, o) :: news).map (·.1)).Nodup := by
  rw [List.map_cons, List.nodup_cons]
  refine ⟨fun hm => ?_, nd⟩
  obtain ⟨p, hp, e⟩ := List.mem_map.mp hm
  have := Heap.lt_size (N p hp).1
  rw [show p.1 = h.objs.size from e] at this
  exact Nat.lt_irrefl _ this

theorem NameAt.mono {fx : Fx} {m : Str → Option Value} {news news' : List (Addr × Obj)} {x : Str} {u : Value} (h : ∀ p ∈ news, p ∈ news') : NameAt fx m news x u → NameAt fx m news' x u
  | .loc a b c => .loc a b c
  | .comp a b c => .comp a b c
  | .cell a b c d => .cell a b (h _ c) d

theorem Core.al_lt {fx : Fx} {σ : St} {W : Wd} {m : Str → Option Value} {news : List (Addr × Obj)} (C : Core fx σ W m news) {a : Addr} (ha : a ∈ W.al) : ∃ o, (a, o) ∈ news := by
  obtain ⟨i, hi, rfl⟩ := List.getElem_of_mem ha
  have hi' : i < σ.hp.length := C.len ▸ hi
  obtain ⟨a, ob, h1, h2, _⟩ := C.obs i σ.hp[i] (by simp [hi'])
  rw [List.getElem?_eq_getElem hi] at h1
  cases h1
  exact ⟨ob, h2⟩

/-- a new object of the abstract heap -/
theorem Rep.alloc {fx : Fx} {σ : St} {W : Wd} {s : Shared} (R : Rep fx σ W s) {o : O} {ob : Obj} (tk : Nat) (hf : ob.isFreed = false)
    (hr : ∀ W', W.le W' → OR W' o s.heap.objs.size ob) :
    ∃ W', W.le W' ∧ W'.al = W.al ++ [s.heap.objs.size] ∧ Rep fx ⟨σ.loc, σ.hp ++ [o]⟩ W' { s with heap := s.heap.push ob, toks := tk } := by
  refine R.elim fun e g m news G F N C => ?_
  have hle : W.le ⟨W.al ++ [s.heap.objs.size], W.tp, W.sc⟩ := ⟨List.prefix_append _ _, fun _ h => h, rfl⟩
  refine ⟨⟨W.al ++ [s.heap.objs.size], W.tp, W.sc⟩, hle, rfl, rest_with e _ _, g, m, (s.heap.objs.size, ob) :: news, G, F.push ob, N.push F ob hf, ?_⟩
  have fresh : ∀ p ∈ news, p.1 ≠ s.heap.objs.size := fun p hp => Nat.ne_of_lt (Heap.lt_size (N p hp).1)
  refine ⟨newsNodup N C.nd ob, fun p hp => .tail _ (C.exs p hp), fun p hp hm => ?_, ?_, ?_, fun i o' h => ?_, fun t ht => .tail _ (C.tps t ht), fun x v h => ?_, fun x c h => ?_, C.scc, C.mfx, C.ext⟩
  · rcases List.mem_append.mp hm with hm | hm
    · exact C.exd p hp hm
    · exact fresh p (C.exs p hp) (List.mem_singleton.mp hm)
  · refine List.nodup_append.mpr ⟨C.aln, by simp, fun a ha b hb => ?_⟩
    rw [List.mem_singleton.mp hb]
    obtain ⟨o', ho'⟩ := C.al_lt ha
    exact fresh _ ho'
  · simp [C.len]
  · dsimp only at h
    rcases Nat.lt_trichotomy i σ.hp.length with q | q | q
    · rw [List.getElem?_append_left q] at h
      obtain ⟨a, ob', h1, h2, h3⟩ := C.obs i o' h
      exact ⟨a, ob', prefix_get hle.1 h1, .tail _ h2, h3.mono hle⟩
    · subst q
      simp at h
      subst h
      exact ⟨_, ob, by simp [← C.len], .head _, hr _ hle⟩
    · rw [List.getElem?_eq_none (by simp; omega)] at h
      cases h
  · obtain ⟨u, h1, h2⟩ := C.loc x v h
    exact ⟨u, h1.mono hle, h2.mono fun p hp => .tail _ hp⟩
  · obtain ⟨h1, o', v, h2, h3⟩ := C.cel x c h
    refine ⟨fun hm => ?_, o', v, .tail _ h2, h3⟩
    rcases List.mem_append.mp hm with hm | hm
    · exact h1 hm
    · exact fresh _ h2 (List.mem_singleton.mp hm)


/-- an object joins the abstract heap -/
theorem Core.add {fx : Fx} {σ : St} {W : Wd} {m : Str → Option Value} {news : List (Addr × Obj)} (C : Core fx σ W m news) {a : Addr} {ob : Obj} {o : O} (fresh : ∀ p ∈ news, p.1 ≠ a) (hr : ∀ W', W.le W' → OR W' o a ob) :
    Core fx ⟨σ.loc, σ.hp ++ [o]⟩ ⟨W.al ++ [a], W.tp, W.sc⟩ m ((a, ob) :: news) := by
  have hle : W.le ⟨W.al ++ [a], W.tp, W.sc⟩ := ⟨List.prefix_append _ _, fun _ h => h, rfl⟩
  refine ⟨?_, fun p hp => .tail _ (C.exs p hp), fun p hp hm => ?_, ?_, ?_, fun i o' h => ?_, fun t ht => .tail _ (C.tps t ht), fun x v h => ?_, fun x c h => ?_, C.scc, C.mfx, C.ext⟩
  · rw [List.map_cons, List.nodup_cons]
    refine ⟨fun hm => ?_, C.nd⟩
    obtain ⟨p, hp, e⟩ := List.mem_map.mp hm
    exact fresh p hp e
  · rcases List.mem_append.mp hm with hm | hm
    · exact C.exd p hp hm
    · exact fresh p (C.exs p hp) (List.mem_singleton.mp hm)
  · refine List.nodup_append.mpr ⟨C.aln, by simp, fun b hb b' hb' => ?_⟩
    rw [List.mem_singleton.mp hb']
    obtain ⟨o', ho'⟩ := C.al_lt hb
    exact fresh _ ho'
  · simp [C.len]
  · dsimp only at h
    rcases Nat.lt_trichotomy i σ.hp.length with q | q | q
    · rw [List.getElem?_append_left q] at h
      obtain ⟨b, ob', h1, h2, h3⟩ := C.obs i o' h
      exact ⟨b, ob', prefix_get hle.1 h1, .tail _ h2, h3.mono hle⟩
    · subst q
      simp at h
      subst h
      exact ⟨_, ob, by simp [← C.len], .head _, hr _ hle⟩
    · rw [List.getElem?_eq_none (by simp; omega)] at h
      cases h
  · obtain ⟨u, h1, h2⟩ := C.loc x v h
    exact ⟨u, h1.mono hle, h2.mono fun p hp => .tail _ hp⟩
  · obtain ⟨h1, o', v, h2, h3⟩ := C.cel x c h
    refine ⟨fun hm => ?_, o', v, .tail _ h2, h3⟩
    rcases List.mem_append.mp hm with hm | hm
    · exact h1 hm
    · exact fresh _ h2 (List.mem_singleton.mp hm)

/-- the same, by what a rule of the library gives -/
theorem Rep.addN {fx : Fx} {σ : St} {W : Wd} {s : Shared} (er : s = { fx.s₀ with heap := s.heap, toks := s.toks }) {g : Heap} {m : Str → Option Value} {news : List (Addr × Obj)} (G : KtsTurn (fx.outer.filterMap (·.frame)) fx.h₀ g) (C : Core fx σ W m news) {D : Addr} {ob : Obj} {o : O} {h' : Heap}
    (F' : Fr g fx.L h' m) (N' : News g fx.L h' ((D, ob) :: news)) (fresh : ∀ p ∈ news, p.1 ≠ D) (hr : ∀ W', W.le W' → OR W' o D ob) :
    ∃ W', W.le W' ∧ W'.al[σ.hp.length]? = some D ∧ Rep fx ⟨σ.loc, σ.hp ++ [o]⟩ W' { s with heap := h' } :=
  ⟨⟨W.al ++ [D], W.tp, W.sc⟩, ⟨List.prefix_append _ _, fun _ h => h, rfl⟩, by simp [← C.len], by rw [er], g, m, _, G, F', N', C.add fresh hr⟩

/-- a new tuple -/
theorem Rep.newTup {fx : Fx} {σ : St} {W : Wd} {s : Shared} (R : Rep fx σ W s) (xs : List Value) (tk : Nat) :
    ∃ W', W.le W' ∧ (s.heap.objs.size, xs) ∈ W'.tp ∧ Rep fx σ W' { s with heap := s.heap.push (tupObj xs), toks := tk } := by
  refine R.elim fun e g m news G F N C => ?_
  have hle : W.le ⟨W.al, (s.heap.objs.size, xs) :: W.tp, W.sc⟩ := ⟨List.prefix_refl _, fun _ h => .tail _ h, rfl⟩
  refine ⟨⟨W.al, (s.heap.objs.size, xs) :: W.tp, W.sc⟩, hle, .head _, rest_with e _ _, g, m, (s.heap.objs.size, tupObj xs) :: news, G, F.push _, N.push F _, ?_⟩
  refine ⟨newsNodup N C.nd _, fun p hp => .tail _ (C.exs p hp), C.exd, C.aln, C.len, fun i o h => ?_, fun t ht => ?_, fun x v h => ?_, fun x c h => ?_, C.scc, C.mfx, fun p hp t ht => ?_⟩
  · obtain ⟨a, ob', h1, h2, h3⟩ := C.obs i o h
    exact ⟨a, ob', h1, .tail _ h2, h3.mono hle⟩
  · rcases List.mem_cons.mp ht with rfl | ht
    · exact .head _
    · exact .tail _ (C.tps t ht)
  · obtain ⟨u, h1, h2⟩ := C.loc x v h
    exact ⟨u, h1.mono hle, h2.mono fun p hp => .tail _ hp⟩
  · obtain ⟨h1, o', v, h2, h3⟩ := C.cel x c h
    exact ⟨h1, o', v, .tail _ h2, h3⟩
  · rcases List.mem_cons.mp ht with rfl | ht
    · exact Nat.ne_of_lt (Heap.lt_size (N p (C.exs p hp)).1)
    · exact C.ext p hp t ht

/-- a plain local is stored -/
theorem Rep.setLoc {fx : Fx} {σ : St} {W : Wd} {s : Shared} (R : Rep fx σ W s) {x : Str} {v : V} {u : Value} (hv : VR W v u) (hk : fx.env.kindOf x = some .local) (hL : fx.env.locals = fx.L) (hm : fx.mfix = none)
    (tk : Nat) {h' : Heap} {M : Str → Option Value} (hM : M x = some u) (hM' : ∀ y, y ≠ x → ∀ m, s.heap.Ns fx.L m → M y = m y) (hn : h'.Ns fx.L M) (hs : Heap.SameBut fx.L s.heap h') :
    Rep fx (σ.set x v) W { s with heap := h', toks := tk } := by
  refine R.elim fun e g m news G F N C => ?_
  refine ⟨rest_with e _ _, g, M, news, G, F.set hn hs, N.set hs, ?_⟩
  refine ⟨C.nd, C.exs, C.exd, C.aln, C.len, C.obs, C.tps, fun y w h => ?_, C.cel, C.scc, fun m₀ q => (by rw [hm] at q; cases q), C.ext⟩
  by_cases q : y = x
  · subst q
    simp [St.set, setN] at h
    subst h
    exact ⟨u, hv, .loc hk hL hM⟩
  · simp [St.set, setN, q] at h
    obtain ⟨u', h1, h2⟩ := C.loc y w h
    refine ⟨u', h1, ?_⟩
    cases h2 with
    | loc a b c => exact .loc a b ((hM' y q m F.ns).trans c)
    | comp a b c => exact .comp a b c
    | cell a b c d => exact .cell a b c d

/-- a plain local goes -/
theorem Rep.delLoc {fx : Fx} {σ : St} {W : Wd} {s : Shared} (R : Rep fx σ W s) {x : Str} (hm : fx.mfix = none) (hk : fx.env.kindOf x = some .local)
    (tk : Nat) {h' : Heap} {M : Str → Option Value} (hM' : ∀ y, y ≠ x → ∀ m, s.heap.Ns fx.L m → M y = m y) (hn : h'.Ns fx.L M) (hs : Heap.SameBut fx.L s.heap h') :
    Rep fx ⟨fun y => if y = x then none else σ.loc y, σ.hp⟩ W { s with heap := h', toks := tk } := by
  refine R.elim fun e g m news G F N C => ?_
  refine ⟨rest_with e _ _, g, M, news, G, F.set hn hs, N.set hs, ?_⟩
  refine ⟨C.nd, C.exs, C.exd, C.aln, C.len, C.obs, C.tps, fun y w h => ?_, C.cel, C.scc, fun m₀ q => (by rw [hm] at q; cases q), C.ext⟩
  dsimp only at h
  split at h
  · cases h
  · rename_i q
    obtain ⟨u', h1, h2⟩ := C.loc y w h
    refine ⟨u', h1, ?_⟩
    cases h2 with
    | loc a b c => exact .loc a b ((hM' y q m F.ns).trans c)
    | comp a b c => exact .comp a b c
    | cell a b c d => exact .cell a b c d

/-- what a frame stands under changes nothing of what it holds -/
theorem Core.cast {fx : Fx} {σ : St} {W : Wd} {m : Str → Option Value} {news : List (Addr × Obj)} {A A' : Around} {q q' : Bool} (C : Core { fx with A := A, qt := q } σ W m news) : Core { fx with A := A', qt := q' } σ W m news :=
  ⟨C.nd, C.exs, C.exd, C.aln, C.len, C.obs, C.tps, fun x v h => by
    obtain ⟨u, h1, h2⟩ := C.loc x v h
    refine ⟨u, h1, ?_⟩
    cases h2 with
    | loc a b c => exact .loc a b c
    | comp a b c => exact .comp a b c
    | cell a b c d => exact .cell a b c d, C.cel, C.scc, C.mfx, C.ext⟩
theorem Rep.cast {fx : Fx} {σ : St} {W : Wd} {s : Shared} {A A' : Around} {q q' : Bool} (R : Rep { fx with A := A, qt := q } σ W s) : Rep { fx with A := A', qt := q' } σ W s := by
  refine R.elim fun e g m news G F N C => ?_
  exact ⟨e, g, m, news, G, F, N, C.cast⟩

def setL (a : Addr) (ob : Obj) (news : List (Addr × Obj)) : List (Addr × Obj) := news.map fun p => if p.1 = a then (a, ob) else p
theorem setL_keys (a : Addr) (ob : Obj) (news : List (Addr × Obj)) : (setL a ob news).map (·.1) = news.map (·.1) := by
  unfold setL
  rw [List.map_map]
  refine List.map_congr_left fun p _ => ?_
  by_cases q : p.1 = a
  · simp [q]
  · simp [q]
theorem setL_self {a : Addr} {ob ob' : Obj} {news : List (Addr × Obj)} (h : (a, ob) ∈ news) : (a, ob') ∈ setL a ob' news := List.mem_map.mpr ⟨_, h, by simp⟩
theorem setL_ne {a : Addr} {ob' : Obj} {news : List (Addr × Obj)} {p : Addr × Obj} (h : p ∈ news) (q : p.1 ≠ a) : p ∈ setL a ob' news := List.mem_map.mpr ⟨_, h, by simp [q]⟩
theorem mem_setL {a : Addr} {ob' : Obj} {news : List (Addr × Obj)} {p : Addr × Obj} (h : p ∈ setL a ob' news) : (p = (a, ob') ∧ ∃ ob, (a, ob) ∈ news) ∨ (p ∈ news ∧ p.1 ≠ a) := by
  obtain ⟨q, hq, e⟩ := List.mem_map.mp h
  by_cases z : q.1 = a
  · simp [z] at e
    exact .inl ⟨e.symm, q.2, by rw [← z]; exact hq⟩
  · simp [z] at e
    subst e
    exact .inr ⟨hq, z⟩
theorem key_inj {news : List (Addr × Obj)} (nd : (news.map (·.1)).Nodup) {a : Addr} {o o' : Obj} (h : (a, o) ∈ news) (h' : (a, o') ∈ news) : o = o' := by
  induction news with
  | nil => cases h
  | cons p r ih =>
    rw [List.map_cons, List.nodup_cons] at nd
    rcases List.mem_cons.mp h with e | h
    · rcases List.mem_cons.mp h' with e' | h'
      · rw [← e'] at e; cases e; rfl
      · exact absurd (List.mem_map.mpr ⟨_, h', by rw [← e]⟩) nd.1
    · rcases List.mem_cons.mp h' with e' | h'
      · exact absurd (List.mem_map.mpr ⟨_, h, by rw [← e']⟩) nd.1
      · exact ih nd.2 h h'

theorem fr_upd {h₀ h h' : Heap} {L a : Addr} {m : Str → Option Value} {news : List (Addr × Obj)} {ob ob' : Obj} (F : Fr h₀ L h m) (N : News h₀ L h news) (hm : (a, ob) ∈ news)
    (hs : Heap.ExtBut a h h') (hg : h'.get? a = some ob') : Fr h₀ L h' m ∧ News h₀ L h' (setL a ob' news) := by
  have D := N _ hm
  refine ⟨⟨F.ns.extBut hs (Ne.symm D.2.1), fun b o e => hs b o (fun z => ?_) (F.keep b o e), F.above⟩, fun p hp => ?_⟩
  · have := D.2.2; rw [← z, e] at this; cases this
  · rcases mem_setL hp with ⟨rfl, _⟩ | ⟨hp, z⟩
    · exact ⟨hg, D.2⟩
    · exact ⟨hs _ _ z (N p hp).1, (N p hp).2⟩

theorem nodup_idx {α : Type} {l : List α} (nd : l.Nodup) : ∀ {i j : Nat} {a : α}, l[i]? = some a → l[j]? = some a → i = j := by
  induction l with
  | nil => intro i j a h; simp at h
  | cons x r ih =>
    rw [List.nodup_cons] at nd
    intro i j a hi hj
    cases i with
    | zero =>
      cases j with
      | zero => rfl
      | succ j =>
        simp at hi hj
        subst hi
        exact absurd (List.mem_of_getElem? hj) nd.1
    | succ i =>
      cases j with
      | zero =>
        simp at hi hj
        subst hj
        exact absurd (List.mem_of_getElem? hi) nd.1
      | succ j => exact congrArg (· + 1) (ih nd.2 (by simpa using hi) (by simpa using hj))

/-- an object of the abstract heap changes -/
theorem Core.upd {fx : Fx} {σ : St} {W : Wd} {m : Str → Option Value} {news : List (Addr × Obj)} (C : Core fx σ W m news) {i : Nat} {a : Addr} {o o' : O} {ob' : Obj} (ho : σ.hp[i]? = some o) (ha : W.al[i]? = some a) (hr : OR W o' a ob') : Core fx ⟨σ.loc, σ.hp.set i o'⟩ W m (setL a ob' news) := by
  obtain ⟨a', ob, h1, h2, h3⟩ := C.obs i o ho
  rw [ha] at h1
  cases h1
  have hin : a ∈ W.al := List.mem_of_getElem? ha
  have other : ∀ p ∈ news, p.1 ≠ a → p ∈ setL a ob' news := fun p hp q => setL_ne hp q
  refine ⟨by rw [setL_keys]; exact C.nd, fun p hp => other p (C.exs p hp) fun q => C.exd p hp (q ▸ hin), C.exd, C.aln, by simp [C.len], fun j o₁ h => ?_, fun t ht => other _ (C.tps t ht) fun q => ?_, fun x v h => ?_, fun x c h => ?_, C.scc, C.mfx, C.ext⟩
  · dsimp only at h
    by_cases q : j = i
    · subst q
      have hj : j < σ.hp.length := by
        rcases Nat.lt_or_ge j σ.hp.length with z | z
        · exact z
        · rw [List.getElem?_eq_none z] at ho; cases ho
      rw [List.getElem?_set_self hj] at h
      cases h
      exact ⟨a, ob', ha, setL_self h2, hr⟩
    · rw [List.getElem?_set_ne (Ne.symm q)] at h
      obtain ⟨b, ob₁, k1, k2, k3⟩ := C.obs j o₁ h
      refine ⟨b, ob₁, k1, other _ k2 fun z => q ?_, k3⟩
      dsimp only at z
      subst z
      exact nodup_idx C.aln k1 ha
  · dsimp only at q
    have := C.tps t ht
    rw [q] at this
    have e := key_inj C.nd this h2
    cases h3 with
    | list n r => injection e with e1; simp at e1
    | exn _ q2 => rw [← e] at q2; cases q2
    | tab _ x _ => have := x.1; rw [← e] at this; injection this with this; exact absurd this (by decide)
    | inst _ => injection e with e1; cases e1
    | att _ => injection e with e1; simp at e1
    | dic x => rw [← e] at x; injection x with x; exact absurd x (by decide)
  · obtain ⟨u, k1, k2⟩ := C.loc x v h
    refine ⟨u, k1, ?_⟩
    cases k2 with
    | loc p q r => exact .loc p q r
    | comp p q r => exact .comp p q r
    | cell p q r t => exact .cell p q (other _ r fun z => (C.cel x _ q).1 (by dsimp only at z; rw [z]; exact hin)) t
  · obtain ⟨k1, o₁, v, k2, k3⟩ := C.cel x c h
    exact ⟨k1, o₁, v, other _ k2 fun z => k1 (by dsimp only at z; rw [z]; exact hin), k3⟩

theorem Rep.upd {fx : Fx} {σ : St} {W : Wd} {s : Shared} (R : Rep fx σ W s) {i : Nat} {a : Addr} {o o' : O} {ob' : Obj} (ho : σ.hp[i]? = some o) (ha : W.al[i]? = some a) (hr : OR W o' a ob') (tk : Nat) {h' : Heap}
    (hs : Heap.ExtBut a s.heap h') (hg : h'.get? a = some ob') : Rep fx ⟨σ.loc, σ.hp.set i o'⟩ W { s with heap := h', toks := tk } := by
  refine R.elim fun e g m news G F N C => ?_
  obtain ⟨a', ob, h1, h2, h3⟩ := C.obs i o ho
  rw [ha] at h1
  cases h1
  obtain ⟨F', N'⟩ := fr_upd F N h2 hs hg
  exact ⟨rest_with e _ _, g, m, setL a ob' news, G, F', N', C.upd ho ha hr⟩

inductive Kd where
  | made | fly | held
/-- an exception within a frame: made there, come from a call, noted there -/
inductive FlyS (B : Heap) (l : List Env) (L e : Addr) (cls : Value) (h : Heap) : Kd → Prop
  | made {oe : Obj} {vs : Array Value} {a0 : Value} : B.StaysIn h → B.get? e = none → h.FunFrames B l → h.get? e = some oe → oe.cls = cls → oe.data = .fields vs → vs[0]? = some a0 → vs[1]? = some .none → FlyS B l L e cls h .made
  | fly {a0 : Value} : Heap.FlyingW B l e cls a0 h → FlyS B l L e cls h .fly
  | held {a0 : Value} : Heap.HeldW B l e cls a0 L h → FlyS B l L e cls h .held

theorem FlyS.stays {B : Heap} {l : List Env} {L e : Addr} {cls : Value} {h : Heap} {k : Kd} (x : FlyS B l L e cls h k) : B.StaysIn h ∧ B.get? e = none := by
  cases x with
  | made a b _ _ _ _ _ _ => exact ⟨a, b⟩
  | fly a => exact ⟨a.1, a.2.1⟩
  | held a => exact ⟨a.1, a.2.1⟩
theorem FlyS.there {B : Heap} {l : List Env} {L e : Addr} {cls : Value} {h : Heap} {k : Kd} (x : FlyS B l L e cls h k) : ∃ oe vs, h.get? e = some oe ∧ oe.cls = cls ∧ oe.data = .fields vs := by
  cases x with
  | made _ _ _ a b c _ _ => exact ⟨_, _, a, b, c⟩
  | fly a =>
    obtain ⟨_, _, _, oe, vs, T, oT, ts, h1, h2, h3, _⟩ := a
    exact ⟨oe, vs, h1, h2.1, h3⟩
  | held a =>
    obtain ⟨_, _, _, oe, vs, T, oT, ts, h1, h2, h3, _⟩ := a
    exact ⟨oe, vs, h1, h2.1, h3⟩

section
variable {M : Model} {A : Around} {E : Value → Shared → Prop} {s : Shared} {B : Heap} {env : Env} {outer : List Env} {L e : Addr} {cls : Value} {k : Kd}
theorem noteFly {Q : Unit → Shared → Prop} (hfr : A.frames = some (env :: outer)) (hf : env.frame = some L) (x : FlyS B (env :: outer) L e cls s.heap k)
    (h : ∀ h', FlyS B (env :: outer) L e cls h' .held → s.heap.UpToSlots h' → Q () { s with heap := h' }) : wpAny M A (noteFrame (.ref e) env) Q E s := by
  cases x with
  | made x1 x2 x3 x4 x5 x6 x7 x8 =>
    unfold noteFrame
    simp only [hf]
    refine wpAny_bind (wpAny_field x4 x6 x8 ?_)
    rw [if_neg (by decide)]
    refine wpAny_entryW hfr x3 hf x4 x1 x2 x6 (Array.getElem?_eq_some_iff.mp x8).1 x7 fun h' ⟨k1, k2, k3, k4⟩ => h h' (.held ⟨k1, x2, k2, x5 ▸ k3⟩) k4
  | fly x => exact wpAny_looks_onW hfr hf x fun h' hh hs => h h' (.held hh) hs
  | held x => exact wpAny_noteFrame_againW hf x.2.2.2 (h s.heap (.held x) (.refl _))
theorem landFly {Q : Unit → Shared → Prop} {l : List Env} (x : FlyS B l L e cls s.heap .held)
    (h : ∀ h', FlyS B l L e cls h' .fly → s.heap.UpToSlots h' → Q () { s with heap := h' }) : wpAny M A (setFlight (.ref e) none) Q E s := by
  cases x with
  | held x => exact wpAny_landsW x fun h' hh hs => h h' (.fly hh) hs
theorem leaveFly {Q : Unit → Shared → Prop} {L₁ : Addr} (hfr : A.frames = some (env :: outer)) (hf : env.frame = some L) (x : FlyS B (env :: outer) L e cls s.heap k)
    (h : ∀ h', FlyS B outer L₁ e cls h' .fly → s.heap.UpToSlots h' → Q () { s with heap := h' }) : wpAny M A (leaving env (.ref e)) Q E s := by
  unfold leaving
  refine wpAny_bind (noteFly hfr hf x fun h₁ x₁ u₁ => ?_)
  refine landFly x₁ fun h₂ x₂ u₂ => ?_
  cases x₂ with
  | fly y =>
    obtain ⟨k1, k2, ⟨_, _, k3⟩, k4⟩ := y
    exact h h₂ (.fly ⟨k1, k2, k3, k4⟩) (u₁.trans u₂)
theorem setFlightHeld {l : List Env} {a0 : Value} {Q : Unit → Shared → Prop} (R : Heap.HeldW B l e cls a0 L s.heap)
    (h : ∀ h', Heap.HeldW B l e cls a0 L h' → s.heap.UpToSlots h' → Q () { s with heap := h' }) : wpAny M A (setFlight (.ref e) (some L)) Q E s := by
  obtain ⟨r1, r2, r3, oe, vs, T, oT, ts, q1, q2, q3, q4, q5, q6, q7, q8, q9⟩ := R
  have big : 3 < ts.size := (Array.getElem?_eq_some_iff.mp q9).1
  have same : ∀ b, b ≠ T → (s.heap.update T (Obj.mapFields (·.setIfInBounds 3 ((some L).elim Value.none fun f => rawInt f)))).get? b = s.heap.get? b := fun b hb => Heap.get?_update_other _ _ (Ne.symm hb)
  have plain : ∀ b o, s.heap.get? b = some o → (∀ vs, o.data ≠ .fields vs) → b ≠ T := fun b o hb hnf q => hnf ts (by rw [q, q7] at hb; cases hb; exact q8)
  unfold setFlight
  refine wpAny_bind (wpAny_field q1 q3 q4 ?_)
  rw [if_pos (show (Value.ref T != Value.none) = true from by simp)]
  refine wpAny_setField q7 q8 big (h _ ⟨fun b o hb => ?_, r2, r3.of_keeps fun b o hb hnf => ⟨o, (same b (plain b o hb hnf)).trans hb, rfl⟩, ?_⟩ fun b o hb hnf => ⟨o.slots, (same b (plain b o hb hnf)).trans hb⟩)
  · exact (same b fun q => by rw [q, q5] at hb; cases hb).trans (r1 b o hb)
  · exact ⟨oe, vs, T, _, _, (same e (Ne.symm q6)).trans q1, q2, q3, q4, q5, q6, Heap.get?_update_self _ q7 (Obj.isFreed_of_fields (Obj.data_mapFields q8 _)), Obj.data_mapFields q8 _, by simp [big]⟩
theorem notedFly {Q : Value → Shared → Prop} (hfr : A.frames = some (env :: outer)) (hf : env.frame = some L) (x : FlyS B (env :: outer) L e cls s.heap k)
    (h : ∀ h', FlyS B (env :: outer) L e cls h' .held → s.heap.UpToSlots h' → Q (.ref e) { s with heap := h' }) : notedBy M A env (cameBackBy M A env Q) (.ref e) s := by
  unfold notedBy
  refine noteFly hfr hf x fun h₁ x₁ u₁ => ?_
  cases x₁ with
  | held y =>
    unfold cameBackBy
    obtain ⟨_, _, _, oe, vs, T, oT, ts, y1, y2, y3, y4, _⟩ := id y
    refine wpAny_bind (wpAny_field y1 y3 y4 ?_)
    rw [if_neg (show ¬ ((Value.ref T == Value.none) = true) from by simp)]
    rw [hf]
    exact setFlightHeld y fun h₂ x₂ u₂ => h h₂ (.held x₂) (u₁.trans u₂)
end

/-- what holds of a frame in which an exception flies -/
structure XCore (fx : Fx) (σ : St) (W : Wd) (g : Heap) (m : Str → Option Value) (news : List (Addr × Obj)) (B h : Heap) : Prop where
  turn : KtsTurn (fx.outer.filterMap (·.frame)) fx.h₀ g
  dic : KtsDicts (fx.outer.filterMap (·.frame)) g
  size : g.objs.size ≤ fx.L
  ns : h.Ns fx.L m
  gB : ∀ b o, g.get? b = some o → b ∉ (fx.fenv :: fx.outer).filterMap (·.frame) → B.get? b = some o
  fr : ∀ b o, g.get? b = some o → ∃ sl, h.get? b = some { o with slots := sl }
  nw : ∀ p ∈ news, B.get? p.1 = some p.2 ∧ p.1 ≠ fx.L ∧ g.get? p.1 = none
  core : Core fx σ W m news
  base : fx.base.StaysIn B

theorem mem_frames {env : Env} {outer : List Env} {L b : Addr} (hf : env.frame = some L) (hm : b ∈ (env :: outer).filterMap (·.frame)) : b = L ∨ b ∈ outer.filterMap (·.frame) := by
  obtain ⟨env', he, hf'⟩ := List.mem_filterMap.mp hm
  rcases List.mem_cons.mp he with rfl | he
  · rw [hf] at hf'
    exact .inl (Option.some.inj hf').symm
  · exact .inr (List.mem_filterMap.mpr ⟨env', he, hf'⟩)
theorem ground_self {g : Heap} {L : Addr} (h : g.objs.size ≤ L) : g.get? L = none := by
  cases q : g.get? L with
  | none => rfl
  | some o => exact absurd (Nat.lt_of_lt_of_le (Heap.lt_size q) h) (Nat.lt_irrefl _)
theorem XCore.up {fx : Fx} {σ : St} {W : Wd} {g B h h' : Heap} {m : Str → Option Value} {news : List (Addr × Obj)} (x : XCore fx σ W g m news B h) (hf : fx.fenv.frame = some fx.L) (st : B.StaysIn h') (u : h.UpToSlots h') : XCore fx σ W g m news B h' :=
  ⟨x.turn, x.dic, x.size, u.ns x.ns, x.gB, fun b o e => by
    by_cases q : b ∈ (fx.fenv :: fx.outer).filterMap (·.frame)
    · rcases mem_frames hf q with z | z
      · rw [z, ground_self x.size] at e
        cases e
      · obtain ⟨o', es, n, e1, e2⟩ := x.dic b z
        rw [e] at e1
        cases e1
        obtain ⟨sl, e3⟩ := x.fr b o e
        obtain ⟨sl', e4⟩ := u b { o with slots := sl } e3 fun vs y => by rw [show ({ o with slots := sl } : Obj).data = o.data from rfl, e2] at y; cases y
        exact ⟨sl', e4⟩
    · exact ⟨o.slots, st b o (x.gB b o e q)⟩, x.nw, x.core, x.base⟩

structure XRep (fx : Fx) (σ : St) (W : Wd) (e : Addr) (cls : Value) (k : Kd) (s : Shared) : Prop where
  rest : s = { fx.s₀ with heap := s.heap, toks := s.toks }
  more : ∃ g m news B, XCore fx σ W g m news B s.heap ∧ FlyS B (fx.fenv :: fx.outer) fx.L e cls s.heap k

section
variable {M : Model} {A : Around} {E : Value → Shared → Prop} {s : Shared} {fx : Fx} {σ : St} {W : Wd} {e : Addr} {cls : Value} {k : Kd}
theorem rest_heap {s s₀ : Shared} (e : s = { s₀ with heap := s.heap, toks := s.toks }) (h : Heap) : ({ s with heap := h } : Shared) = { s₀ with heap := h, toks := s.toks } := by
  rw [e]
theorem XRep.note {Q : Unit → Shared → Prop} (x : XRep fx σ W e cls k s) (hfr : A.frames = some (fx.fenv :: fx.outer)) (hf : fx.fenv.frame = some fx.L)
    (h : ∀ h', XRep fx σ W e cls .held { s with heap := h' } → Q () { s with heap := h' }) : wpAny M A (noteFrame (.ref e) fx.fenv) Q E s := by
  obtain ⟨r, g, m, news, B, c, f⟩ := x
  exact noteFly hfr hf f fun h' f' u => h h' ⟨rest_heap r _, g, m, news, B, c.up hf f'.stays.1 u, f'⟩
theorem XRep.land {Q : Unit → Shared → Prop} (x : XRep fx σ W e cls .held s) (hf : fx.fenv.frame = some fx.L)
    (h : ∀ h', XRep fx σ W e cls .fly { s with heap := h' } → Q () { s with heap := h' }) : wpAny M A (setFlight (.ref e) none) Q E s := by
  obtain ⟨r, g, m, news, B, c, f⟩ := x
  exact landFly f fun h' f' u => h h' ⟨rest_heap r _, g, m, news, B, c.up hf f'.stays.1 u, f'⟩
theorem XRep.again {Q : Unit → Shared → Prop} (x : XRep fx σ W e cls .fly s) (hf : fx.fenv.frame = some fx.L)
    (h : ∀ h', XRep fx σ W e cls .fly { s with heap := h' } → Q () { s with heap := h' }) : wpAny M A (setFlight (.ref e) none) Q E s := by
  obtain ⟨r, g, m, news, B, c, f⟩ := x
  cases f with
  | fly f => exact lands_againW f fun h' f' u => h h' ⟨rest_heap r _, g, m, news, B, c.up hf f'.1 u, .fly f'⟩
theorem XRep.noted {Q : Value → Shared → Prop} (x : XRep fx σ W e cls k s) (hfr : A.frames = some (fx.fenv :: fx.outer)) (hf : fx.fenv.frame = some fx.L)
    (h : ∀ h', XRep fx σ W e cls .held { s with heap := h' } → Q (.ref e) { s with heap := h' }) : notedBy M A fx.fenv (cameBackBy M A fx.fenv Q) (.ref e) s := by
  obtain ⟨r, g, m, news, B, c, f⟩ := x
  exact notedFly hfr hf f fun h' f' u => h h' ⟨rest_heap r _, g, m, news, B, c.up hf f'.stays.1 u, f'⟩
end

end Mine

set_option autoImplicit false
namespace Mine
open PySem PySem.W PySem.Calls PySem.Spec PyProof.Rows

abbrev XP := Value → St → Prop

def PV (fx : Fx) (W : Wd) (Q : V → St → Prop) : Value → Shared → Prop := fun u s' => ∃ W' σ' v, W.le W' ∧ Rep fx σ' W' s' ∧ VR W' v u ∧ Q v σ'
def PX (fx : Fx) (W : Wd) (X : XP) : Value → Shared → Prop := fun u s => ∃ e cls k W' σ', u = .ref e ∧ W.le W' ∧ XRep fx σ' W' e cls k s ∧ X cls σ'
def PVs (fx : Fx) (W : Wd) (Q : List V → St → Prop) : List Value → Shared → Prop := fun us s' => ∃ W' σ' vs, W.le W' ∧ Rep fx σ' W' s' ∧ VRs W' vs us ∧ Q vs σ'
def PB (fx : Fx) (W : Wd) (Q : Bool → St → Prop) : Bool → Shared → Prop := fun b s' => ∃ W' σ', W.le W' ∧ Rep fx σ' W' s' ∧ Q b σ'
def PU (fx : Fx) (W : Wd) (Q : St → Prop) : Unit → Shared → Prop := fun _ s' => ∃ W' σ', W.le W' ∧ Rep fx σ' W' s' ∧ Q σ'

theorem PV.elim {fx : Fx} {W : Wd} {Q : V → St → Prop} {u : Value} {s : Shared} {P : Prop} (x : PV fx W Q u s) (k : ∀ W' σ' v, W.le W' → Rep fx σ' W' s → VR W' v u → Q v σ' → P) : P := by
  obtain ⟨W', σ', v, a, b, c, d⟩ := x
  exact k W' σ' v a b c d
theorem PVs.elim {fx : Fx} {W : Wd} {Q : List V → St → Prop} {u : List Value} {s : Shared} {P : Prop} (x : PVs fx W Q u s) (k : ∀ W' σ' v, W.le W' → Rep fx σ' W' s → VRs W' v u → Q v σ' → P) : P := by
  obtain ⟨W', σ', v, a, b, c, d⟩ := x
  exact k W' σ' v a b c d
theorem PB.elim {fx : Fx} {W : Wd} {Q : Bool → St → Prop} {u : Bool} {s : Shared} {P : Prop} (x : PB fx W Q u s) (k : ∀ W' σ', W.le W' → Rep fx σ' W' s → Q u σ' → P) : P := by
  obtain ⟨W', σ', a, b, c⟩ := x
  exact k W' σ' a b c
theorem PU.elim {fx : Fx} {W : Wd} {Q : St → Prop} {u : Unit} {s : Shared} {P : Prop} (x : PU fx W Q u s) (k : ∀ W' σ', W.le W' → Rep fx σ' W' s → Q σ' → P) : P := by
  obtain ⟨W', σ', a, b, c⟩ := x
  exact k W' σ' a b c
theorem PV.mono {fx : Fx} {W W' : Wd} {Q Q' : V → St → Prop} (h : W.le W') (hq : ∀ v σ, Q v σ → Q' v σ) {u : Value} {s : Shared} : PV fx W' Q u s → PV fx W Q' u s := by
  rintro ⟨W₁, σ, v, a, b, c, d⟩
  exact ⟨W₁, σ, v, h.trans a, b, c, hq _ _ d⟩
theorem PX.mono {fx : Fx} {W W' : Wd} {X X' : XP} (h : W.le W') (hx : ∀ c hp, X c hp → X' c hp) {u : Value} {s : Shared} : PX fx W' X u s → PX fx W X' u s := by
  rintro ⟨e, cls, k, W₁, σ, a, b, c, d⟩
  exact ⟨e, cls, k, W₁, σ, a, h.trans b, c, hx _ _ d⟩
/-- no exception -/
def X0 : XP := fun _ _ => False
theorem PX.never {fx : Fx} {W : Wd} {u : Value} {s : Shared} : PX fx W X0 u s → False := by
  rintro ⟨_, _, _, _, _, _, _, _, d⟩
  exact d
theorem PVs.mono {fx : Fx} {W W' : Wd} {Q Q' : List V → St → Prop} (h : W.le W') (hq : ∀ v σ, Q v σ → Q' v σ) {u : List Value} {s : Shared} : PVs fx W' Q u s → PVs fx W Q' u s := by
  rintro ⟨W₁, σ, v, a, b, c, d⟩
  exact ⟨W₁, σ, v, h.trans a, b, c, hq _ _ d⟩
theorem PB.mono {fx : Fx} {W W' : Wd} {Q Q' : Bool → St → Prop} (h : W.le W') (hq : ∀ v σ, Q v σ → Q' v σ) {u : Bool} {s : Shared} : PB fx W' Q u s → PB fx W Q' u s := by
  rintro ⟨W₁, σ, a, b, d⟩
  exact ⟨W₁, σ, h.trans a, b, hq _ _ d⟩
/-- an expression's run -/
def EvE (fx : Fx) (X : XP) (e : Expr) (σ : St) (Q : V → St → Prop) : Prop := ∀ W s, Rep fx σ W s → wpAny fx.M fx.A (eval e fx.env) (PV fx W Q) (PX fx W X) s
/-- the elements of a display, the arguments of a call -/
def EvEs (fx : Fx) (X : XP) (es : List Expr) (σ : St) (Q : List V → St → Prop) : Prop :=
  ∀ W s pos, Rep fx σ W s → wpAny fx.M fx.A (spliced (backTo pos (starEach es fx.env))) (PVs fx W Q) (PX fx W X) s
def EvB (fx : Fx) (X : XP) (e : Expr) (σ : St) (Q : Bool → St → Prop) : Prop := ∀ W s, Rep fx σ W s → wpAny fx.M fx.A (isTrue e fx.env (eval e fx.env)) (PB fx W Q) (PX fx W X) s

section
variable {fx : Fx} {X : XP} {σ : St}

theorem EvE.mono {e : Expr} {Q Q' : V → St → Prop} (h : EvE fx X e σ Q) (hq : ∀ v σ', Q v σ' → Q' v σ') : EvE fx X e σ Q' :=
  fun W s R => wpAny_mono (h W s R) (fun _ _ x => x.mono (.refl _) hq) fun _ _ x => x
theorem EvEs.mono {e : List Expr} {Q Q' : List V → St → Prop} (h : EvEs fx X e σ Q) (hq : ∀ v σ', Q v σ' → Q' v σ') : EvEs fx X e σ Q' :=
  fun W s p R => wpAny_mono (h W s p R) (fun _ _ x => x.mono (.refl _) hq) fun _ _ x => x
theorem EvB.mono {e : Expr} {Q Q' : Bool → St → Prop} (h : EvB fx X e σ Q) (hq : ∀ v σ', Q v σ' → Q' v σ') : EvB fx X e σ Q' :=
  fun W s R => wpAny_mono (h W s R) (fun _ _ x => x.mono (.refl _) hq) fun _ _ x => x

theorem PV.here {Q : V → St → Prop} {W : Wd} {s : Shared} {v : V} {u : Value} (R : Rep fx σ W s) (r : VR W v u) (q : Q v σ) : PV fx W Q u s := ⟨W, σ, v, .refl _, R, r, q⟩
theorem PB.here {Q : Bool → St → Prop} {W : Wd} {s : Shared} {b : Bool} (R : Rep fx σ W s) (q : Q b σ) : PB fx W Q b s := ⟨W, σ, .refl _, R, q⟩

theorem evConstInt {i : Int} {k : Nat} {pos : Pos} {Q : V → St → Prop} (h : Q (.int i) σ) : EvE fx X (.Constant (.int i) k pos) σ Q :=
  fun _ _ R => wpAny_Constant_int (.here (R.toks _) (.int _ _) h)
theorem evConstStr {x : Str} {k : Nat} {pos : Pos} {Q : V → St → Prop} (h : Q (.str x) σ) : EvE fx X (.Constant (.str x) k pos) σ Q :=
  fun _ _ R => Constant_str (.here (R.toks _) (.str _ _) h)
theorem evConstBool {b : Bool} {k : Nat} {pos : Pos} {Q : V → St → Prop} (h : Q (.bool b) σ) : EvE fx X (.Constant (.bool b) k pos) σ Q :=
  fun _ _ R => Constant_bool (.here R (.bool _) h)
theorem evConstNone {k : Nat} {pos : Pos} {Q : V → St → Prop} (h : Q .none σ) : EvE fx X (.Constant .none k pos) σ Q :=
  fun _ _ R => Constant_none (.here R .none h)

/-- the frame's own facts -/
structure FxOk (fx : Fx) : Prop where
  kind : fx.env.scope.kind = .function
  handled : fx.qt = true → fx.A.handled = none

theorem evName (ok : FxOk fx) {x : Str} {pos : Pos} {v : V} {Q : V → St → Prop} (hv : σ.loc x = some v) (h : Q v σ) (hd : (x == ("__debug__" : Str)) = false) (hc : (x == ("__classdict__" : Str)) = false) :
    EvE fx X (.Name x pos) σ Q := by
  intro W s R
  obtain ⟨_, g, m, news, G, F, N, C⟩ := id R
  obtain ⟨u, r, n⟩ := C.loc x v hv
  refine wpAny_Name ?_ hd
  cases n with
  | loc a b c => exact wpAny_loadName_local ok.kind a (by rw [b]; exact F.ns) c (.here R r h)
  | @comp o a b c =>
    obtain ⟨es, ep, c1, c2, c3⟩ := c
    exact wpAny_loadName_local (m := nsFind es) ok.kind a ⟨o, es, ep, (N _ (C.exs _ b)).1, c1, c2, fun _ => rfl⟩ c3 (.here R r h)
  | @cell c o a b d e =>
    rcases a with a | a
    · exact wpAny_loadName_cell ok.kind a b ⟨o, N.get d, e⟩ (.here R r h)
    · exact wpAny_loadName_free ok.kind a b ⟨o, N.get d, e⟩ (.here R r h) hc

def BinT (fx : Fx) (X : XP) (op : Operator) (a b : V) (σ : St) (Q : V → St → Prop) : Prop :=
  ∀ W s u₁ u₂, Rep fx σ W s → VR W a u₁ → VR W b u₂ → wpAny fx.M fx.A (binaryOp op u₁ u₂) (PV fx W Q) (PX fx W X) s
theorem evBin {l r : Expr} {op : Operator} {pos : Pos} {Q : V → St → Prop} (h : EvE fx X l σ (fun a σ₁ => EvE fx X r σ₁ (fun b σ₂ => BinT fx X op a b σ₂ Q))) : EvE fx X (.BinOp l op r pos) σ Q := by
  intro W s R
  refine wpAny_BinOp (wpAny_mono (h W s R) ?_ fun _ _ x => x)
  refine fun u₁ s₁ zz => zz.elim fun W₁ σ₁ a le₁ R₁ r₁ h₁ => ?_
  refine wpAny_mono (h₁ W₁ s₁ R₁) ?_ fun _ _ x => x.mono le₁ fun _ _ y => y
  refine fun u₂ s₂ zz => zz.elim fun W₂ σ₂ b le₂ R₂ r₂ h₂ => ?_
  exact wpAny_mono (h₂ W₂ s₂ u₁ u₂ R₂ (r₁.mono le₂) r₂) (fun _ _ x => x.mono (le₁.trans le₂) fun _ _ y => y) fun _ _ x => x.mono (le₁.trans le₂) fun _ _ y => y

def UnT (fx : Fx) (X : XP) (op : UnaryOp) (a : V) (σ : St) (Q : V → St → Prop) : Prop :=
  ∀ W s u, Rep fx σ W s → VR W a u → wpAny fx.M fx.A (unaryOp op u) (PV fx W Q) (PX fx W X) s
theorem evUn {l : Expr} {op : UnaryOp} {pos : Pos} {Q : V → St → Prop} (h : EvE fx X l σ (fun a σ₁ => UnT fx X op a σ₁ Q)) : EvE fx X (.UnaryOp op l pos) σ Q := by
  intro W s R
  refine UnaryOp_ (wpAny_mono (h W s R) ?_ fun _ _ x => x)
  refine fun u₁ s₁ zz => zz.elim fun W₁ σ₁ a le₁ R₁ r₁ h₁ => ?_
  exact wpAny_mono (h₁ W₁ s₁ u₁ R₁ r₁) (fun _ _ x => x.mono le₁ fun _ _ y => y) fun _ _ x => x.mono le₁ fun _ _ y => y

def TruT (fx : Fx) (X : XP) (a : V) (σ : St) (Q : Bool → St → Prop) : Prop :=
  ∀ W s u, Rep fx σ W s → VR W a u → wpAny fx.M fx.A (truthy u) (PB fx W Q) (PX fx W X) s

theorem evAnd {e₁ e₂ : Expr} {rest : List Expr} {pos : Pos} {Q : V → St → Prop}
    (h : EvE fx X e₁ σ (fun v σ₁ => TruT fx X v σ₁ (fun c σ₂ => if c then EvE fx X (.BoolOp .And (e₂ :: rest) pos) σ₂ Q else Q v σ₂))) : EvE fx X (.BoolOp .And (e₁ :: e₂ :: rest) pos) σ Q := by
  intro W s R
  refine BoolOp_and (wpAny_mono (h W s R) ?_ fun _ _ x => x)
  refine fun u₁ s₁ zz => zz.elim fun W₁ σ₁ a le₁ R₁ r₁ h₁ => ?_
  refine wpAny_mono (h₁ W₁ s₁ u₁ R₁ r₁) ?_ fun _ _ x => x.mono le₁ fun _ _ y => y
  refine fun c s₂ zz => zz.elim fun W₂ σ₂ le₂ R₂ h₂ => ?_
  cases c with
  | true => exact wpAny_mono (h₂ W₂ s₂ R₂) (fun _ _ x => x.mono (le₁.trans le₂) fun _ _ y => y) fun _ _ x => x.mono (le₁.trans le₂) fun _ _ y => y
  | false => exact ⟨W₂, σ₂, a, le₁.trans le₂, R₂, r₁.mono le₂, h₂⟩
theorem evBoolOne {op : BoolOp} {e : Expr} {pos : Pos} {Q : V → St → Prop} (h : EvE fx X e σ Q) : EvE fx X (.BoolOp op [e] pos) σ Q := fun W s R => BoolOp_one (h W s R)

def CmpT (fx : Fx) (X : XP) (op : CmpOp) (a b : V) (σ : St) (Q : V → St → Prop) : Prop :=
  ∀ W s u₁ u₂, Rep fx σ W s → VR W a u₁ → VR W b u₂ → wpAny fx.M fx.A (compareOp op u₁ u₂) (PV fx W Q) (PX fx W X) s
theorem evCmp1 {l r : Expr} {op : CmpOp} {pos : Pos} {Q : V → St → Prop} (h : EvE fx X l σ (fun a σ₁ => EvE fx X r σ₁ (fun b σ₂ => CmpT fx X op a b σ₂ Q))) (hm : behindInMarks op r = false) : EvE fx X (.Compare l [op] [r] pos) σ Q := by
  intro W s R
  refine wpAny_Compare1 (wpAny_mono (h W s R) ?_ fun _ _ x => x) hm
  refine fun u₁ s₁ zz => zz.elim fun W₁ σ₁ a le₁ R₁ r₁ h₁ => ?_
  refine wpAny_mono (h₁ W₁ s₁ R₁) ?_ fun _ _ x => x.mono le₁ fun _ _ y => y
  refine fun u₂ s₂ zz => zz.elim fun W₂ σ₂ b le₂ R₂ r₂ h₂ => ?_
  exact wpAny_mono (h₂ W₂ s₂ u₁ u₂ R₂ (r₁.mono le₂) r₂) (fun _ _ x => x.mono (le₁.trans le₂) fun _ _ y => y) fun _ _ x => x.mono (le₁.trans le₂) fun _ _ y => y
theorem evB_cmp1 {l r : Expr} {op : CmpOp} {pos : Pos} {Q : Bool → St → Prop} (h : EvE fx X l σ (fun a σ₁ => EvE fx X r σ₁ (fun b σ₂ => CmpT fx X op a b σ₂ (fun c σ₃ => TruT fx X c σ₃ Q)))) (hm : behindInMarks op r = false) : EvB fx X (.Compare l [op] [r] pos) σ Q := by
  intro W s R
  refine wpAny_isTrue_Compare1 (wpAny_mono (h W s R) ?_ fun _ _ x => x) hm
  refine fun u₁ s₁ zz => zz.elim fun W₁ σ₁ a le₁ R₁ r₁ h₁ => ?_
  refine wpAny_mono (h₁ W₁ s₁ R₁) ?_ fun _ _ x => x.mono le₁ fun _ _ y => y
  refine fun u₂ s₂ zz => zz.elim fun W₂ σ₂ b le₂ R₂ r₂ h₂ => ?_
  refine wpAny_mono (h₂ W₂ s₂ u₁ u₂ R₂ (r₁.mono le₂) r₂) ?_ fun _ _ x => x.mono (le₁.trans le₂) fun _ _ y => y
  refine fun u₃ s₃ zz => zz.elim fun W₃ σ₃ c le₃ R₃ r₃ h₃ => ?_
  exact wpAny_mono (h₃ W₃ s₃ u₃ R₃ r₃) (fun _ _ x => x.mono ((le₁.trans le₂).trans le₃) fun _ _ y => y) fun _ _ x => x.mono ((le₁.trans le₂).trans le₃) fun _ _ y => y

theorem evB_not {e : Expr} {pos : Pos} {Q : Bool → St → Prop} (h : EvB fx X e σ (fun c σ₁ => Q (!c) σ₁)) : EvB fx X (.UnaryOp .Not e pos) σ Q :=
  fun W s R => isTrue_not (wpAny_mono (h W s R) (fun _ _ ⟨W₁, σ₁, a, b, c⟩ => ⟨W₁, σ₁, a, b, c⟩) fun _ _ x => x)
theorem evB_or_nil {pos : Pos} {Q : Bool → St → Prop} (h : Q false σ) : EvB fx X (.BoolOp .Or [] pos) σ Q := fun _ _ R => isTrue_or_nil (.here R h)
theorem evB_or {e : Expr} {rest : List Expr} {pos : Pos} {Q : Bool → St → Prop} (h : EvB fx X e σ (fun c σ₁ => if c then Q true σ₁ else EvB fx X (.BoolOp .Or rest pos) σ₁ Q)) : EvB fx X (.BoolOp .Or (e :: rest) pos) σ Q := by
  intro W s R
  refine isTrue_or (wpAny_mono (h W s R) ?_ fun _ _ x => x)
  refine fun c s₁ zz => zz.elim fun W₁ σ₁ le₁ R₁ h₁ => ?_
  cases c with
  | false => exact wpAny_mono (h₁ W₁ s₁ R₁) (fun _ _ x => x.mono le₁ fun _ _ y => y) fun _ _ x => x.mono le₁ fun _ _ y => y
  | true => exact ⟨W₁, σ₁, le₁, R₁, h₁⟩
theorem evB_plain {e : Expr} {Q : Bool → St → Prop} (h : EvE fx X e σ (fun v σ₁ => TruT fx X v σ₁ Q)) (he : ∀ env whole, isTrue e env whole = (do let v ← whole; standAt e.pos; holding [v] (truthy v))) : EvB fx X e σ Q := by
  intro W s R
  refine isTrue_plain (wpAny_mono (h W s R) ?_ fun _ _ x => x) (he _ _)
  refine fun u₁ s₁ zz => zz.elim fun W₁ σ₁ a le₁ R₁ r₁ h₁ => ?_
  exact wpAny_mono (h₁ W₁ s₁ u₁ R₁ r₁) (fun _ _ x => x.mono le₁ fun _ _ y => y) fun _ _ x => x.mono le₁ fun _ _ y => y

/-- arguments and elements -/
theorem evEs_nil {Q : List V → St → Prop} (h : Q [] σ) : EvEs fx X [] σ Q := fun W _ _ R => spliced_none ⟨W, σ, [], .refl _, R, .nil, h⟩
theorem evEs_cons {e : Expr} {rest : List Expr} {Q : List V → St → Prop} (h : EvE fx X e σ (fun v σ₁ => EvEs fx X rest σ₁ (fun vs σ₂ => Q (v :: vs) σ₂))) (hs : ∀ env, starEach (e :: rest) env = (false, eval e env) :: starEach rest env) : EvEs fx X (e :: rest) σ Q := by
  intro W s pos R
  refine spliced_more (wpAny_mono (h W s R) ?_ fun _ _ x => x) (hs _)
  refine fun u₁ s₁ zz => zz.elim fun W₁ σ₁ a le₁ R₁ r₁ h₁ => ?_
  refine wpAny_mono (h₁ W₁ s₁ pos R₁) ?_ fun _ _ x => x.mono le₁ fun _ _ y => y
  refine fun us s₂ zz => zz.elim fun W₂ σ₂ vs le₂ R₂ r₂ h₂ => ?_
  exact ⟨W₂, σ₂, a :: vs, le₁.trans le₂, R₂, .cons (r₁.mono le₂) r₂, h₂⟩

theorem evTuple {es : List Expr} {k : Nat} {pos : Pos} {Q : V → St → Prop} (h : EvEs fx X es σ (fun vs σ₁ => vs.length ≤ sizeLine ∧ Q (.tup vs) σ₁)) : EvE fx X (.Tuple es k pos) σ Q := by
  intro W s R
  refine Tuple_ (wpAny_mono (h W s pos R) ?_ fun _ _ x => x)
  rintro us s₁ ⟨W₁, σ₁, vs, le₁, R₁, r₁, h₁, h₂⟩
  obtain ⟨W₂, le₂, hm, R₂⟩ := R₁.newTup us s₁.toks
  exact wpAny_newObj_type ⟨W₂, σ₁, .tup vs, le₁.trans le₂, R₂, .tup hm (r₁.mono le₂), h₂⟩ (by show us.toArray.size ≤ sizeLine; rw [List.size_toArray, ← r₁.length]; exact h₁)
theorem evList {es : List Expr} {pos : Pos} {Q : V → St → Prop} (h : EvEs fx X es σ (fun vs σ₁ => vs.length ≤ sizeLine ∧ Q (.ref σ₁.hp.length) ⟨σ₁.loc, σ₁.hp ++ [.list vs]⟩)) : EvE fx X (.List es pos) σ Q := by
  intro W s R
  refine List_ (wpAny_mono (h W s pos R) ?_ fun _ _ x => x)
  rintro us s₁ ⟨W₁, σ₁, vs, le₁, R₁, r₁, h₁, h₂⟩
  obtain ⟨W₂, le₂, hm, R₂⟩ := R₁.alloc (o := .list vs) (ob := listObj us 0) s₁.toks rfl fun W' le => .list 0 (r₁.mono le)
  refine wpAny_newObj_type ⟨W₂, _, .ref σ₁.hp.length, le₁.trans le₂, R₂, .ref ?_, h₂⟩ (by show us.toArray.size ≤ sizeLine; rw [List.size_toArray, ← r₁.length]; exact h₁)
  refine R₁.elim fun _ g m news G F N C => ?_
  rw [hm, ← C.len]
  simp
end
end Mine

set_option autoImplicit false
namespace Mine
open PySem PySem.W PySem.Calls PySem.Spec PyProof.Rows

def Fx.pushL (fx : Fx) (ps : List (Addr × Obj)) : Fx := { fx with ex := ps ++ fx.ex }

structure ExOk (fx : Fx) (ps : List (Addr × Obj)) : Prop where
  nd : (ps.map (·.1)).Nodup
  dis : ∀ p ∈ fx.ex, p.1 ∉ ps.map (·.1)
  cel : ∀ x c, fx.env.cells.lookup x = some c → c ∉ ps.map (·.1)
  loc : fx.env.locals ∉ ps.map (·.1)

theorem mem_keys {ps : List (Addr × Obj)} {a : Addr} (h : a ∈ ps.map (·.1)) : ∃ o, (a, o) ∈ ps := by
  obtain ⟨p, hp, rfl⟩ := List.mem_map.mp h
  exact ⟨p.2, hp⟩

theorem nodup_filter_keys {news : List (Addr × Obj)} (nd : (news.map (·.1)).Nodup) (f : Addr × Obj → Bool) : ((news.filter f).map (·.1)).Nodup :=
  (List.filter_sublist.map _).nodup nd

/-- the frame's own things change, the rest stays -/
theorem Rep.exSwap {fx : Fx} {σ : St} {W : Wd} {s : Shared} {ps : List (Addr × Obj)} (R : Rep (fx.pushL ps) σ W s) (ok : ExOk fx ps) (ps' : List (Addr × Obj)) (hk : ps'.map (·.1) = ps.map (·.1)) (tk : Nat) {h' : Heap}
    (hs : ∀ b o, b ∉ ps.map (·.1) → s.heap.get? b = some o → h'.get? b = some o) (hg : ∀ p ∈ ps', h'.get? p.1 = some p.2) : Rep (fx.pushL ps') σ W { s with heap := h', toks := tk } := by
  refine R.elim fun e g m news G F N C => ?_
  have hpn : ∀ p ∈ ps, p ∈ news := fun p hp => C.exs p (List.mem_append_left _ hp)
  have hin : ∀ a ∈ ps.map (·.1), a ≠ fx.L ∧ g.get? a = none := fun a ha => by
    obtain ⟨o, ho⟩ := mem_keys ha
    exact (N _ (hpn _ ho)).2
  have hL : fx.L ∉ ps.map (·.1) := fun q => (hin _ q).1 rfl
  have hal : ∀ a ∈ W.al, a ∉ ps.map (·.1) := fun a ha q => by
    obtain ⟨o, ho⟩ := mem_keys q
    exact C.exd _ (List.mem_append_left _ ho) ha
  let f : Addr × Obj → Bool := fun p => decide (p.1 ∉ ps.map (·.1))
  have keepM : ∀ p ∈ news, p.1 ∉ ps.map (·.1) → p ∈ ps' ++ news.filter f := fun p hp q => List.mem_append_right _ (List.mem_filter.mpr ⟨hp, by simpa [f] using q⟩)
  refine ⟨rest_with e _ _, g, m, ps' ++ news.filter f, G, ⟨F.ns.at' fun o q => hs _ o hL q, fun b o q => hs b o (fun z => ?_) (F.keep b o q), F.above⟩, fun p hp => ?_, ?_⟩
  · have := (hin b z).2
    rw [show g.get? b = some o from q] at this; cases this
  · rcases List.mem_append.mp hp with hp | hp
    · exact ⟨hg p hp, hin p.1 (hk ▸ List.mem_map_of_mem hp)⟩
    · obtain ⟨h1, h2⟩ := List.mem_filter.mp hp
      exact ⟨hs _ _ (by simpa [f] using h2) (N p h1).1, (N p h1).2⟩
  refine ⟨?_, fun p hp => ?_, fun p hp => ?_, C.aln, C.len, fun i o h => ?_, fun t ht' => ?_, fun x v h => ?_, fun x c h => ?_, C.scc, C.mfx, fun p hp t ht' => ?_⟩
  · rw [List.map_append]
    refine List.nodup_append.mpr ⟨hk ▸ ok.nd, nodup_filter_keys C.nd f, fun a ha b hb q => ?_⟩
    rw [hk] at ha
    obtain ⟨p, hp, rfl⟩ := List.mem_map.mp hb
    have := (List.mem_filter.mp hp).2
    simp only [f, decide_eq_true_eq] at this
    exact this (q ▸ ha)
  · rcases List.mem_append.mp hp with hp | hp
    · exact List.mem_append_left _ hp
    · exact keepM p (C.exs p (List.mem_append_right _ hp)) (ok.dis p hp)
  · rcases List.mem_append.mp hp with hp | hp
    · exact fun q => hal _ q (hk ▸ List.mem_map_of_mem hp)
    · exact C.exd p (List.mem_append_right _ hp)
  · obtain ⟨a, ob, h1, h2, h3⟩ := C.obs i o h
    exact ⟨a, ob, h1, keepM _ h2 (hal a (List.mem_of_getElem? h1)), h3⟩
  · refine keepM _ (C.tps t ht') fun q => ?_
    obtain ⟨o, ho⟩ := mem_keys q
    exact C.ext _ (List.mem_append_left _ ho) t ht' rfl
  · obtain ⟨u, h1, h2⟩ := C.loc x v h
    refine ⟨u, h1, ?_⟩
    cases h2 with
    | loc a b c => exact .loc a b c
    | @comp o a b c =>
      refine .comp (o := o) a (List.mem_append_right _ ?_) c
      rcases List.mem_append.mp b with b | b
      · exact absurd (List.mem_map_of_mem (f := (·.1)) b) ok.loc
      · exact b
    | cell a b c d => exact .cell a b (keepM _ c (ok.cel x _ b)) d
  · obtain ⟨h1, o, v, h2, h3⟩ := C.cel x c h
    exact ⟨h1, o, v, keepM _ h2 (ok.cel x c h), h3⟩
  · rcases List.mem_append.mp hp with hp | hp
    · obtain ⟨o, ho⟩ := mem_keys (ps := ps) (a := p.1) (by rw [← hk]; exact List.mem_map_of_mem (f := (·.1)) hp)
      exact C.ext _ (List.mem_append_left _ ho) t ht'
    · exact C.ext p (List.mem_append_right _ hp) t ht'

theorem Rep.exDrop {fx : Fx} {σ : St} {W : Wd} {s : Shared} {ps : List (Addr × Obj)} (R : Rep (fx.pushL ps) σ W s) (ok : ExOk fx ps) (tk : Nat) {h' : Heap}
    (hs : ∀ b o, b ∉ ps.map (·.1) → s.heap.get? b = some o → h'.get? b = some o) : Rep fx σ W { s with heap := h', toks := tk } := by
  refine R.elim fun e g m news G F N C => ?_
  have hpn : ∀ p ∈ ps, p ∈ news := fun p hp => C.exs p (List.mem_append_left _ hp)
  have hin : ∀ a ∈ ps.map (·.1), a ≠ fx.L ∧ g.get? a = none := fun a ha => by
    obtain ⟨o, ho⟩ := mem_keys ha
    exact (N _ (hpn _ ho)).2
  have hL : fx.L ∉ ps.map (·.1) := fun q => (hin _ q).1 rfl
  have hal : ∀ a ∈ W.al, a ∉ ps.map (·.1) := fun a ha q => by
    obtain ⟨o, ho⟩ := mem_keys q
    exact C.exd _ (List.mem_append_left _ ho) ha
  let f : Addr × Obj → Bool := fun p => decide (p.1 ∉ ps.map (·.1))
  have keepM : ∀ p ∈ news, p.1 ∉ ps.map (·.1) → p ∈ news.filter f := fun p hp q => List.mem_filter.mpr ⟨hp, by simpa [f] using q⟩
  refine ⟨rest_with e _ _, g, m, news.filter f, G, ⟨F.ns.at' fun o q => hs _ o hL q, fun b o q => hs b o (fun z => ?_) (F.keep b o q), F.above⟩, fun p hp => ?_, ?_⟩
  · have := (hin b z).2
    rw [show g.get? b = some o from q] at this; cases this
  · obtain ⟨h1, h2⟩ := List.mem_filter.mp hp
    exact ⟨hs _ _ (by simpa [f] using h2) (N p h1).1, (N p h1).2⟩
  refine ⟨nodup_filter_keys C.nd f, fun p hp => keepM p (C.exs p (List.mem_append_right _ hp)) (ok.dis p hp), fun p hp => C.exd p (List.mem_append_right _ hp), C.aln, C.len, fun i o h => ?_, fun t ht' => ?_, fun x v h => ?_, fun x c h => ?_, C.scc, C.mfx, fun p hp t ht' => C.ext p (List.mem_append_right _ hp) t ht'⟩
  · obtain ⟨a, ob, h1, h2, h3⟩ := C.obs i o h
    exact ⟨a, ob, h1, keepM _ h2 (hal a (List.mem_of_getElem? h1)), h3⟩
  · refine keepM _ (C.tps t ht') fun q => ?_
    obtain ⟨o, ho⟩ := mem_keys q
    exact C.ext _ (List.mem_append_left _ ho) t ht' rfl
  · obtain ⟨u, h1, h2⟩ := C.loc x v h
    refine ⟨u, h1, ?_⟩
    cases h2 with
    | loc a b c => exact .loc a b c
    | @comp o a b c =>
      refine .comp (o := o) a ?_ c
      rcases List.mem_append.mp b with b | b
      · exact absurd (List.mem_map_of_mem (f := (·.1)) b) ok.loc
      · exact b
    | cell a b c d => exact .cell a b (keepM _ c (ok.cel x _ b)) d
  · obtain ⟨h1, o, v, h2, h3⟩ := C.cel x c h
    exact ⟨h1, o, v, keepM _ h2 (ok.cel x c h), h3⟩

theorem Rep.exPush {fx : Fx} {σ : St} {W : Wd} {s : Shared} (R : Rep fx σ W s) (ps : List (Addr × Obj)) (nd : (ps.map (·.1)).Nodup) (tk : Nat) {h' : Heap}
    (hs : ∀ b o, s.heap.get? b = some o → h'.get? b = some o) (hf : ∀ p ∈ ps, s.heap.objs.size ≤ p.1) (hg : ∀ p ∈ ps, h'.get? p.1 = some p.2) (hl : ∃ o, s.heap.get? fx.env.locals = some o) :
    Rep (fx.pushL ps) σ W { s with heap := h', toks := tk } ∧ ExOk fx ps := by
  refine R.elim fun e g m news G F N C => ?_
  have old : ∀ a o, s.heap.get? a = some o → a ∉ ps.map (·.1) := fun a o h q => by
    obtain ⟨o', ho⟩ := mem_keys q
    exact Nat.not_lt.mpr (hf _ ho) (Heap.lt_size h)
  have oldN : ∀ p ∈ news, p.1 ∉ ps.map (·.1) := fun p hp => old _ _ (N p hp).1
  obtain ⟨oL, _, _, hL, _⟩ := F.ns
  refine ⟨⟨rest_with e _ _, g, m, ps ++ news, G, frKeeps F hs, fun p hp => ?_, ?_⟩, nd, fun p hp => oldN p (C.exs p hp), fun x c h => ?_, ?_⟩
  · rcases List.mem_append.mp hp with hp | hp
    · refine ⟨hg p hp, fun q => old _ _ hL ?_, ?_⟩
      · have := List.mem_map_of_mem (f := (·.1)) hp
        rw [q] at this
        exact this
      · cases q : g.get? p.1 with
        | none => rfl
        | some o => exact absurd (List.mem_map_of_mem (f := (·.1)) hp) (old _ _ (F.keep _ _ q))
    · exact ⟨hs _ _ (N p hp).1, (N p hp).2⟩
  · refine ⟨?_, fun p hp => ?_, fun p hp => ?_, C.aln, C.len, fun i o h => ?_, fun t ht => List.mem_append_right _ (C.tps t ht), fun x v h => ?_, fun x c h => ?_, C.scc, C.mfx, fun p hp t ht' => ?_⟩
    · rw [List.map_append]
      refine List.nodup_append.mpr ⟨nd, C.nd, fun a ha b hb q => ?_⟩
      obtain ⟨p, hp, rfl⟩ := List.mem_map.mp hb
      exact oldN p hp (q ▸ ha)
    · rcases List.mem_append.mp hp with hp | hp
      · exact List.mem_append_left _ hp
      · exact List.mem_append_right _ (C.exs p hp)
    · rcases List.mem_append.mp hp with hp | hp
      · intro q
        obtain ⟨o, ho⟩ := C.al_lt q
        exact oldN _ ho (List.mem_map_of_mem (f := (·.1)) hp)
      · exact C.exd p hp
    · obtain ⟨a, ob, h1, h2, h3⟩ := C.obs i o h
      exact ⟨a, ob, h1, List.mem_append_right _ h2, h3⟩
    · obtain ⟨u, h1, h2⟩ := C.loc x v h
      refine ⟨u, h1, ?_⟩
      cases h2 with
      | loc a b c => exact .loc a b c
      | comp a b c => exact .comp a (List.mem_append_right _ b) c
      | cell a b c d => exact .cell a b (List.mem_append_right _ c) d
    · obtain ⟨h1, o, v, h2, h3⟩ := C.cel x c h
      exact ⟨h1, o, v, List.mem_append_right _ h2, h3⟩
    · rcases List.mem_append.mp hp with hp | hp
      · intro q
        exact oldN _ (C.tps t ht') (q ▸ List.mem_map_of_mem (f := (·.1)) hp)
      · exact C.ext p hp t ht'
  · obtain ⟨_, o, v, h2, _⟩ := C.cel x c h
    exact oldN _ h2
  · obtain ⟨o, ho⟩ := hl
    exact old _ _ ho

theorem Rep.exPop {fx : Fx} {σ : St} {W : Wd} {s : Shared} {ps : List (Addr × Obj)} (R : Rep (fx.pushL ps) σ W s) {p : Addr × Obj} (hp : p ∈ ps) : s.heap.get? p.1 = some p.2 := by
  refine R.elim fun _ g m news G F N C => ?_
  exact (N p (C.exs p (List.mem_append_left _ hp))).1

end Mine

set_option autoImplicit false
namespace Mine
open PySem PySem.W PySem.Calls PySem.Spec PyProof.Rows

inductive Fl where
  | next | brk | cont
  | ret (v : V)
inductive FlR (W : Wd) : Fl → Flow → Prop
  | next : FlR W .next .next
  | brk : FlR W .brk .brk
  | cont : FlR W .cont .cont
  | ret {v : V} {u : Value} : VR W v u → FlR W (.ret v) (.ret u)

def PF (fx : Fx) (W : Wd) (Q : Fl → St → Prop) : Flow → Shared → Prop := fun f s' => ∃ W' σ' fl, W.le W' ∧ Rep fx σ' W' s' ∧ FlR W' fl f ∧ Q fl σ'
theorem PF.elim {fx : Fx} {W : Wd} {Q : Fl → St → Prop} {u : Flow} {s : Shared} {P : Prop} (x : PF fx W Q u s) (k : ∀ W' σ' v, W.le W' → Rep fx σ' W' s → FlR W' v u → Q v σ' → P) : P := by
  obtain ⟨W', σ', v, a, b, c, d⟩ := x
  exact k W' σ' v a b c d
theorem PF.mono {fx : Fx} {W W' : Wd} {Q Q' : Fl → St → Prop} (h : W.le W') (hq : ∀ v σ, Q v σ → Q' v σ) {u : Flow} {s : Shared} : PF fx W' Q u s → PF fx W Q' u s := by
  rintro ⟨W₁, σ, v, a, b, c, d⟩
  exact ⟨W₁, σ, v, h.trans a, b, c, hq _ _ d⟩

def EvS (fx : Fx) (X : XP) (st : Stmt) (σ : St) (Q : Fl → St → Prop) : Prop := ∀ W s, Rep fx σ W s → wpAny fx.M fx.A (exec st fx.env) (PF fx W Q) (PX fx W X) s
def EvSs (fx : Fx) (X : XP) (ss : List Stmt) (σ : St) (Q : Fl → St → Prop) : Prop := ∀ W s, Rep fx σ W s → wpAny fx.M fx.A (execs ss fx.env) (PF fx W Q) (PX fx W X) s

/-- what holds of a frame -/
structure FxAll (fx : Fx) : Prop where
  ok : FxOk fx
  locs : fx.env.locals = fx.L ∨ ∃ o, (fx.env.locals, o) ∈ fx.ex
  cex : fx.env.locals = fx.L → ∀ x c, fx.env.cells.lookup x = some c → ∀ p ∈ fx.ex, p.1 ≠ c
  cinj : ∀ x y c, fx.env.cells.lookup x = some c → fx.env.cells.lookup y = some c → x = y
  cdef : ∀ x, fx.env.kindOf x = some .cell → fx.env.cells.lookup x ≠ none
  scr : ∃ xs n o, fx.base.get? fx.sc = some o ∧ o.cls = .type "list" ∧ o.data = .seq (List.toArray xs) n ∧ IntsAre xs fx.ns ∧ fx.ns.length < 2 ^ 62
  egl : fx.env.globals = mainGlobals
  ebu : fx.env.builtins = builtinsNs
  top : Top fx.pg.p fx.pg.loose fx.pg.mean fx.pg.mg fx.pg.mb fx.base
  part : fx.pg.K.In fx.base
  below : Below fx.A₀ fx.base fx.outer fx.h₀
  dicts : KtsDicts (fx.outer.filterMap (·.frame)) fx.h₀
  frs : fx.A.frames = some (fx.fenv :: fx.outer)
  ffr : fx.fenv.frame = some fx.L
  fkd : fx.fenv.scope.kind = .function
  depth : fx.A.depth + fx.lev < recursionLimit
  room : fx.A.units + 8 * fx.lev + 100 < cLine
  mfn : fx.env.locals = fx.L → fx.mfix = none
  envf : fx.env.locals = fx.L → fx.env = fx.fenv

theorem FxAll.units {fx : Fx} (a : FxAll fx) : fx.A.units + 100 < cLine := by have := a.room; omega

theorem FxAll.ground {fx : Fx} (a : FxAll fx) {g : Heap} (G : KtsTurn (fx.outer.filterMap (·.frame)) fx.h₀ g) : Below fx.A₀ fx.base fx.outer g ∧ KtsDicts (fx.outer.filterMap (·.frame)) g := by
  have K := a.below
  refine ⟨⟨K.stack, fun b o e => G.other b o (K.stays b o e) (fun hm => ?_), K.frames.of_keeps fun b o e _ => ?_⟩, a.dicts.turn G⟩
  · rw [(K.frames.mem hm).1] at e
    cases e
  · obtain ⟨sl, hs⟩ := G.up e
    exact ⟨_, hs, rfl⟩
theorem FxAll.stays {fx : Fx} (a : FxAll fx) {σ : St} {W : Wd} {s : Shared} (R : Rep fx σ W s) : ∀ b o, fx.base.get? b = some o → s.heap.get? b = some o := by
  refine R.elim fun _ g m news G F N C => ?_
  exact fun b o e => F.keep b o ((a.ground G).1.stays b o e)

theorem FxAll.glbAt {fx : Fx} (a : FxAll fx) {A : Around} (x : Str) (v : Value) (pos : Pos) (h : fx.pg.gl x = some v) (hk : fx.env.kindOf x = some .globalImplicit) (s : Shared) (Q : Value → Shared → Prop) (E : Value → Shared → Prop) (st : ∀ b o, fx.base.get? b = some o → s.heap.get? b = some o) (q : Q v s)
    (hd : (x == ("__debug__" : Str)) = false) : wpAny fx.M A (eval (.Name x pos) fx.env) Q E s := by
  unfold Pg.gl at h
  split at h
  · rename_i v' e
    cases h
    exact Name_function_global a.ok.kind hk (loadGlobal_global (by rw [a.egl]; exact a.top.g.keeps st) (mg_of a.part a.top.g e) q) hd
  · rename_i e
    split at h
    · cases h
    · rename_i hn
      exact Name_function_global a.ok.kind hk (loadGlobal_builtin (by rw [a.egl]; exact a.top.g.keeps st) (mg_none_of a.part a.top.g e) (by rw [a.ebu]; exact a.top.b.keeps st) ((a.top.builtins x hn).trans h) q) hd
  · cases h
theorem FxAll.glb {fx : Fx} (a : FxAll fx) (x : Str) (v : Value) (pos : Pos) (h : fx.pg.gl x = some v) (hk : fx.env.kindOf x = some .globalImplicit) (σ : St) (W : Wd) (s : Shared) (Q : Value → Shared → Prop) (E : Value → Shared → Prop) (R : Rep fx σ W s) (q : Q v s)
    (hd : (x == ("__debug__" : Str)) = false) : wpAny fx.M fx.A (eval (.Name x pos) fx.env) Q E s := a.glbAt x v pos h hk s Q E (a.stays R) q hd

theorem Core.unpush {fx : Fx} {σ : St} {W : Wd} {m : Str → Option Value} {news ps : List (Addr × Obj)} (C : Core (fx.pushL ps) σ W m news) (hl : fx.env.locals ∉ ps.map (·.1)) : Core fx σ W m news := by
  refine ⟨C.nd, fun p hp => C.exs p (List.mem_append_right _ hp), fun p hp => C.exd p (List.mem_append_right _ hp), C.aln, C.len, C.obs, C.tps, fun x v h => ?_, C.cel, C.scc, C.mfx, fun p hp t ht => C.ext p (List.mem_append_right _ hp) t ht⟩
  obtain ⟨u, h1, h2⟩ := C.loc x v h
  refine ⟨u, h1, ?_⟩
  cases h2 with
  | loc a b c => exact .loc a b c
  | comp a b c =>
    refine .comp a ?_ c
    rcases List.mem_append.mp b with b | b
    · exact absurd (List.mem_map_of_mem (f := (·.1)) b) hl
    · exact b
  | cell a b c d => exact .cell a b c d
theorem PX.pushL {fx : Fx} {ps : List (Addr × Obj)} (hl : fx.env.locals ∉ ps.map (·.1)) {W : Wd} {X : XP} {u : Value} {s : Shared} : PX (fx.pushL ps) W X u s → PX fx W X u s := by
  rintro ⟨e, cls, k, W', σ', a, b, ⟨r, g, m, news, B, c, f⟩, d⟩
  exact ⟨e, cls, k, W', σ', a, b, ⟨r, g, m, news, B, ⟨c.turn, c.dic, c.size, c.ns, c.gB, c.fr, c.nw, c.core.unpush hl, c.base⟩, f⟩, d⟩
/-- what stands between a frame's exceptional end and its loops' -/
theorem PX.noted {fx : Fx} (ok : FxAll fx) (hL : fx.env.locals = fx.L) {W : Wd} {X : XP} {u : Value} {s : Shared} : PX fx W X u s → notedBy fx.M fx.A fx.env (cameBackBy fx.M fx.A fx.env (PX fx W X)) u s := by
  rintro ⟨e, cls, k, W', σ', rfl, b, x, d⟩
  rw [ok.envf hL]
  exact x.noted ok.frs ok.ffr fun h' x' => ⟨e, cls, _, W', σ', rfl, b, x', d⟩

theorem XRep.stays {fx : Fx} {σ : St} {W : Wd} {e : Addr} {cls : Value} {k : Kd} {s : Shared} (x : XRep fx σ W e cls k s) : ∀ b o, fx.base.get? b = some o → s.heap.get? b = some o := by
  obtain ⟨r, g, m, news, B, c, f⟩ := x
  exact fun b o q => f.stays.1 b o (c.base b o q)
theorem XRep.raise {fx : Fx} (ok : FxAll fx) {σ : St} {W : Wd} {s : Shared} (R : Rep fx σ W s) {h' : Heap} {e : Addr} {cls : Value} {vs : List Value} (hx : Heap.MadeExcOf s.heap h' e cls vs) : XRep fx σ W e cls .made { s with heap := h' } := by
  refine R.elim fun r g m news G F N C => ?_
  obtain ⟨BL, D⟩ := ok.ground G
  have K' := pushX BL F ok.ffr ok.fkd
  have hin : ∀ env ∈ (fx.fenv :: fx.outer), ∀ b, env.frame = some b → b ∈ (fx.fenv :: fx.outer).filterMap (·.frame) := fun env he b hb => List.mem_filterMap.mpr ⟨env, he, hb⟩
  obtain ⟨t, ht, _, _⟩ := hx.there
  refine ⟨rest_heap r _, g, m, news, hideAll s.heap ((fx.fenv :: fx.outer).filterMap (·.frame)), ⟨G, D, F.above, F.ns.keeps hx.keeps, fun b o e nm => hideAll_get _ (F.keep b o e) nm, fun b o e => ⟨o.slots, hx.keeps _ _ (F.keep b o e)⟩, fun p hp => ⟨hideAll_get _ (N p hp).1 ?_, (N p hp).2⟩, C, ?_⟩,
    .made (fun b o e => hx.keeps b o (of_hideAll _ e)) ?_ ((funFrames_hide K'.frames hin).of_keeps fun b o e _ => ⟨o, hx.keeps b o e, rfl⟩) ht rfl rfl rfl rfl⟩
  · intro hm
    rcases mem_frames ok.ffr hm with z | z
    · exact (N p hp).2.1 z
    · obtain ⟨o, es, n, h1, _⟩ := D _ z
      rw [(N p hp).2.2] at h1
      cases h1
  · exact fun b o q => hideAll_get _ (K'.stays b o q) fun hm => by rw [(K'.frames.mem hm).1] at q; cases q
  · cases q : (hideAll s.heap ((fx.fenv :: fx.outer).filterMap (·.frame))).get? e with
    | none => rfl
    | some o => have := of_hideAll _ q; rw [hx.new] at this; cases this
theorem XRep.catch {fx : Fx} (ok : FxAll fx) {σ : St} {W : Wd} {s : Shared} {e : Addr} {cls : Value} (x : XRep fx σ W e cls .fly s) :
    Rep fx σ W s ∧ ∀ C, cls = .ref C → Rep fx ⟨σ.loc, σ.hp ++ [.exn C]⟩ ⟨W.al ++ [e], W.tp, W.sc⟩ s ∧ VR ⟨W.al ++ [e], W.tp, W.sc⟩ (.ref σ.hp.length) (.ref e) := by
  obtain ⟨r, g, m, news, B, c, f⟩ := x
  have st := f.stays
  obtain ⟨oe, vs, he, hc, hd⟩ := f.there
  obtain ⟨T, S⟩ := kts_turn_at (h := s.heap) (fs := fx.outer.filterMap (·.frame)) (g := g) (fun b hb => let ⟨o, es, n, h1, _⟩ := c.dic b hb; ⟨o, h1⟩)
    (fun b o e nm => st.1 b o (c.gB b o e (fun hm => by
      rcases mem_frames ok.ffr hm with z | z
      · rw [z, ground_self c.size] at e; cases e
      · exact nm z))) (fun b o e _ => c.fr b o e)
  have F : Fr (ktsHeap s.heap (fx.outer.filterMap (·.frame)) g) fx.L s.heap m := ⟨c.ns, S, by rw [T.size]; exact c.size⟩
  have N : News (ktsHeap s.heap (fx.outer.filterMap (·.frame)) g) fx.L s.heap news := fun p hp => ⟨st.1 _ _ (c.nw p hp).1, (c.nw p hp).2.1, T.none_ _ (c.nw p hp).2.2⟩
  refine ⟨⟨r, _, m, news, c.turn.trans T, F, N, c.core⟩, fun C hC => ⟨⟨r, _, m, (e, oe) :: news, c.turn.trans T, F, fun p hp => ?_, c.core.add (fun p hp q => ?_) fun W' _ => .exn (hc.trans hC) hd⟩, .ref (by rw [← c.core.len]; simp)⟩⟩
  · rcases List.mem_cons.mp hp with rfl | hp
    · refine ⟨he, fun q => ?_, T.none_ _ ?_⟩
      · obtain ⟨oL, es, ep, h1, h2, _⟩ := c.ns
        dsimp only at q
        rw [← q, he] at h1
        cases h1
        rw [hd] at h2
        cases h2
      · dsimp only
        cases q : g.get? e with
        | none => rfl
        | some o =>
          by_cases z : e ∈ (fx.fenv :: fx.outer).filterMap (·.frame)
          · rcases mem_frames ok.ffr z with y | y
            · rw [y, ground_self c.size] at q; cases q
            · obtain ⟨o', es, n, e1, e2⟩ := c.dic e y
              rw [q] at e1
              cases e1
              obtain ⟨sl, e3⟩ := c.fr e o q
              rw [he] at e3
              cases e3
              rw [show ({ o with slots := sl } : Obj).data = o.data from rfl, e2] at hd
              cases hd
          · have := c.gB e o q z
            rw [st.2] at this
            cases this
    · exact N p hp
  · have := (c.nw p hp).1
    rw [q, st.2] at this
    cases this

theorem Rep.unpush {fx : Fx} {σ : St} {W : Wd} {s : Shared} {ps : List (Addr × Obj)} (R : Rep (fx.pushL ps) σ W s) (hl : fx.env.locals ∉ ps.map (·.1)) : Rep fx σ W s := by
  refine R.elim fun e g m news G F N C => ?_
  refine ⟨e, g, m, news, G, F, N, C.nd, fun p hp => C.exs p (List.mem_append_right _ hp), fun p hp => C.exd p (List.mem_append_right _ hp), C.aln, C.len, C.obs, C.tps, fun x v h => ?_, C.cel, C.scc, C.mfx, fun p hp t ht => C.ext p (List.mem_append_right _ hp) t ht⟩
  obtain ⟨u, h1, h2⟩ := C.loc x v h
  refine ⟨u, h1, ?_⟩
  cases h2 with
  | loc a b c => exact .loc a b c
  | comp a b c =>
    refine .comp a ?_ c
    rcases List.mem_append.mp b with b | b
    · exact absurd (List.mem_map_of_mem (f := (·.1)) b) hl
    · exact b
  | cell a b c d => exact .cell a b c d

theorem FxAll.pushL {fx : Fx} (a : FxAll fx) {ps : List (Addr × Obj)} (ok : ExOk fx ps) : FxAll (fx.pushL ps) where
  ok := ⟨a.ok.kind, a.ok.handled⟩
  locs := a.locs.imp id fun ⟨o, h⟩ => ⟨o, List.mem_append_right _ h⟩
  cex := fun hL x c h p hp => by
    rcases List.mem_append.mp hp with hp | hp
    · exact fun q => ok.cel x c h (q ▸ List.mem_map_of_mem (f := (·.1)) hp)
    · exact a.cex hL x c h p hp
  cinj := a.cinj
  cdef := a.cdef
  scr := a.scr
  egl := a.egl
  ebu := a.ebu
  top := a.top
  part := a.part
  below := a.below
  dicts := a.dicts
  frs := a.frs
  ffr := a.ffr
  fkd := a.fkd
  depth := a.depth
  room := a.room
  mfn := a.mfn
  envf := a.envf

theorem Rep.locals_at {fx : Fx} (a : FxAll fx) {σ : St} {W : Wd} {s : Shared} (R : Rep fx σ W s) : ∃ o, s.heap.get? fx.env.locals = some o := by
  refine R.elim fun _ g m news G F N C => ?_
  rcases a.locs with h | ⟨o, h⟩
  · obtain ⟨oL, _, _, hL, _⟩ := F.ns
    exact ⟨oL, h ▸ hL⟩
  · exact ⟨o, (N _ (C.exs _ h)).1⟩

section
variable {fx : Fx} {X : XP} {σ : St}

theorem EvS.mono {st : Stmt} {Q Q' : Fl → St → Prop} (h : EvS fx X st σ Q) (hq : ∀ v σ', Q v σ' → Q' v σ') : EvS fx X st σ Q' :=
  fun W s R => wpAny_mono (h W s R) (fun _ _ x => x.mono (.refl _) hq) fun _ _ x => x
theorem EvSs.mono {ss : List Stmt} {Q Q' : Fl → St → Prop} (h : EvSs fx X ss σ Q) (hq : ∀ v σ', Q v σ' → Q' v σ') : EvSs fx X ss σ Q' :=
  fun W s R => wpAny_mono (h W s R) (fun _ _ x => x.mono (.refl _) hq) fun _ _ x => x

theorem evSs_nil {Q : Fl → St → Prop} (h : Q .next σ) : EvSs fx X [] σ Q := fun W _ R => wpAny_execs_nil ⟨W, σ, .next, .refl _, R, .next, h⟩
theorem evSs_cons {st : Stmt} {rest : List Stmt} {Q : Fl → St → Prop} (h : EvS fx X st σ (fun fl σ₁ => match fl with | .next => EvSs fx X rest σ₁ Q | f => Q f σ₁)) : EvSs fx X (st :: rest) σ Q := by
  intro W s R
  refine wpAny_execs_cons (wpAny_mono (h W s R) ?_ fun _ _ x => x)
  refine fun f s₁ zz => zz.elim fun W₁ σ₁ fl le₁ R₁ r₁ h₁ => ?_
  cases r₁ with
  | next => exact wpAny_mono (h₁ W₁ s₁ R₁) (fun _ _ x => x.mono le₁ fun _ _ y => y) fun _ _ x => x.mono le₁ fun _ _ y => y
  | brk => exact ⟨W₁, σ₁, .brk, le₁, R₁, .brk, h₁⟩
  | cont => exact ⟨W₁, σ₁, .cont, le₁, R₁, .cont, h₁⟩
  | ret r => exact ⟨W₁, σ₁, .ret _, le₁, R₁, .ret r, h₁⟩

theorem evReturn {e : Expr} {pos : Pos} {Q : Fl → St → Prop} (h : EvE fx X e σ (fun v σ₁ => Q (.ret v) σ₁)) : EvS fx X (.Return (some e) pos) σ Q := by
  intro W s R
  refine wpAny_Return_some (wpAny_mono (h W s R) ?_ fun _ _ x => x)
  refine fun u s₁ zz => zz.elim fun W₁ σ₁ v le₁ R₁ r₁ h₁ => ?_
  exact ⟨W₁, σ₁, .ret v, le₁, R₁, .ret r₁, h₁⟩
theorem evIf {t : Expr} {b o : List Stmt} {pos : Pos} {Q : Fl → St → Prop} (h : EvB fx X t σ (fun c σ₁ => if c then EvSs fx X b σ₁ Q else EvSs fx X o σ₁ Q)) : EvS fx X (.If t b o pos) σ Q := by
  intro W s R
  refine wpAny_If (wpAny_mono (h W s R) ?_ fun _ _ x => x)
  refine fun c s₁ zz => zz.elim fun W₁ σ₁ le₁ R₁ h₁ => ?_
  cases c with
  | true => exact wpAny_mono (h₁ W₁ s₁ R₁) (fun _ _ x => x.mono le₁ fun _ _ y => y) fun _ _ x => x.mono le₁ fun _ _ y => y
  | false => exact wpAny_mono (h₁ W₁ s₁ R₁) (fun _ _ x => x.mono le₁ fun _ _ y => y) fun _ _ x => x.mono le₁ fun _ _ y => y

def notComp : Expr → Bool
  | .ListComp .. | .SetComp .. | .DictComp .. => false
  | _ => true
theorem swaps_false {e : Expr} (h : notComp e = true) (t : Option Expr) (n : Nat) (env : Env) : swapsWith e t n env = pure false := by
  cases e <;> first | rfl | cases h

theorem evExpr (ok : FxOk fx) {e : Expr} {pos : Pos} {Q : Fl → St → Prop} (h : EvE fx X e σ (fun _ σ₁ => Q .next σ₁)) (hc : notComp e = true) : EvS fx X (.Expr e pos) σ Q := by
  intro W s R
  refine wpAny_Expr_any (wpAny_mono (h W s R) ?_ fun _ _ x => x) (by simp [interactive, ok.kind]) (swaps_false hc _ _ _)
  refine fun u s₁ zz => zz.elim fun W₁ σ₁ v le₁ R₁ r₁ h₁ => ?_
  exact ⟨W₁, σ₁, .next, le₁, R₁, .next, h₁⟩

def isVar (fx : Fx) (x : Str) : Prop := fx.env.locals = fx.L ∧ (fx.env.kindOf x = some .local ∨ fx.env.kindOf x = some .cell)

theorem storeVar (ok : FxAll fx) {x : Str} (hx : isVar fx x) {W : Wd} {s : Shared} {v : V} {u : Value} (R : Rep fx σ W s) (r : VR W v u) {Q : Unit → Shared → Prop} {E : Value → Shared → Prop}
    (k : ∀ h' tk, Rep fx (σ.set x v) W { s with heap := h', toks := tk } → Q () { s with heap := h', toks := tk }) : wpAny fx.M fx.A (storeName fx.env x u) Q E s := by
  obtain ⟨hL, hk | hk⟩ := hx
  · obtain ⟨_, g, m, news, G, F, N, C⟩ := id R
    refine wpAny_storeName_local hk (by rw [hL]; exact F.ns) (fun h' hn hs => k _ _ (R.setLoc r hk hL (ok.mfn hL) _ (by simp) ?_ (hL ▸ hn) (hL ▸ hs))) (by rw [ok.ok.kind]; rfl)
    intro y hy m' hm'
    simp only [hy, if_false]
    obtain ⟨o, es, ep, a1, a2, _, a4⟩ := F.ns
    obtain ⟨o', es', ep', b1, b2, _, b4⟩ := hm'
    rw [a1] at b1; cases b1
    rw [a2] at b2; cases b2
    rw [← a4, ← b4]
  · obtain ⟨e, g, m, news, G, F, N, C⟩ := id R
    cases hc : fx.env.cells.lookup x with
    | none => exact absurd hc (ok.cdef x hk)
    | some c =>
      obtain ⟨h1, o, v₀, h2, h3⟩ := C.cel x c hc
      refine wpAny_storeName_cell ok.ok.kind hk hc ⟨o, N.get h2, h3⟩ fun h' hv hs => ?_
      obtain ⟨o', ho', hd'⟩ := hv
      obtain ⟨F', N'⟩ := fr_upd F N h2 hs.extBut ho'
      refine k h' s.toks ⟨rest_with e _ _, g, m, setL c o' news, G, F', N', ?_⟩
      have other : ∀ p ∈ news, p.1 ≠ c → p ∈ setL c o' news := fun p hp q => setL_ne hp q
      refine ⟨by rw [setL_keys]; exact C.nd, fun p hp => other p (C.exs p hp) (ok.cex hL x c hc p hp), C.exd, C.aln, C.len, fun i o₁ h => ?_, fun t ht => other _ (C.tps t ht) fun q => ?_, fun y w h => ?_, fun y c' h => ?_, C.scc, C.mfx, C.ext⟩
      · obtain ⟨a, ob, k1, k2, k3⟩ := C.obs i o₁ h
        exact ⟨a, ob, k1, other _ k2 fun q => h1 (q ▸ List.mem_of_getElem? k1), k3⟩
      · dsimp only at q
        have := C.tps t ht
        rw [q] at this
        rw [← key_inj C.nd this h2] at h3
        cases h3
      · by_cases q : y = x
        · subst q
          simp [St.set, setN] at h
          subst h
          exact ⟨u, r, .cell (.inl hk) hc (setL_self h2) hd'⟩
        · simp [St.set, setN, q] at h
          obtain ⟨u', k1, k2⟩ := C.loc y w h
          refine ⟨u', k1, ?_⟩
          cases k2 with
          | loc a b d => exact .loc a b d
          | comp a b d => exact .comp a b d
          | cell a b d f => exact .cell a b (other _ d fun z => q (ok.cinj y x c (by rw [b]; exact congrArg some z) hc)) f
      · obtain ⟨k1, o₁, w, k2, k3⟩ := C.cel y c' h
        by_cases q : c' = c
        · subst q
          exact ⟨k1, o', _, setL_self h2, hd'⟩
        · exact ⟨k1, o₁, w, other _ k2 q, k3⟩

theorem evAssignName (ok : FxAll fx) {x : Str} {p pos : Pos} {e : Expr} {Q : Fl → St → Prop} (hx : isVar fx x) (h : EvE fx X e σ (fun v σ₁ => Q .next (σ₁.set x v))) (hc : notComp e = true) : EvS fx X (.Assign [.Name x p] e pos) σ Q := by
  intro W s R
  refine wpAny_Assign_Name (wpAny_mono (h W s R) ?_ fun _ _ x => x) (swaps_false hc _ _ _)
  refine fun u s₁ zz => zz.elim fun W₁ σ₁ v le₁ R₁ r₁ h₁ => ?_
  exact storeVar ok hx R₁ r₁ fun _ _ R₂ => ⟨W₁, _, .next, le₁, R₂, .next, h₁⟩

/-- what an iterator yields -/
structure Src (fx : Fx) (W₀ : Wd) (its : List V) (need : St → Prop) (Io : Addr) (st : Nat → List (Addr × Obj) → Prop) : Prop where
  tup : ∀ k ps, st k ps → ∀ p ∈ ps, ∀ xs, p.2 ≠ tupObj xs
  own : ∀ qs (k : Nat) ps (σ : St) W s (t : Expr) (u : Value), st k ps → Rep ((fx.pushL qs).pushL ps) σ W s → ∀ (Q : Unit → Shared → Prop) (E : Value → Shared → Prop), Q () s → wpAny fx.M fx.A (letOwnedTupleGo t (.ref Io) u) Q E s
  self : ∀ qs (k : Nat) ps (σ : St) W s, st k ps → Rep ((fx.pushL qs).pushL ps) σ W s → ∀ (Q : Value → Shared → Prop) (E : Value → Shared → Prop), Q (.ref Io) s → wpAny fx.M fx.A (pyIter (.ref Io)) Q E s
  next : ∀ qs (k : Nat) ps (σ : St) W s (hk : k < its.length), W₀.le W → st k ps → ExOk (fx.pushL qs) ps → Rep ((fx.pushL qs).pushL ps) σ W s → need σ → ∀ (Q : Option Value → Shared → Prop) (E : Value → Shared → Prop),
    (∀ u ps' W' h' tk', st (k + 1) ps' → ps'.map (·.1) = ps.map (·.1) → W.le W' → VR W' its[k] u → Rep ((fx.pushL qs).pushL ps') σ W' { s with heap := h', toks := tk' } → Q (some u) { s with heap := h', toks := tk' }) →
    wpAny fx.M fx.A (pyNext (.ref Io)) Q E s
  done : ∀ qs ps (σ : St) W s, W₀.le W → st its.length ps → ExOk (fx.pushL qs) ps → Rep ((fx.pushL qs).pushL ps) σ W s → need σ → ∀ (Q : Option Value → Shared → Prop) (E : Value → Shared → Prop),
    (∀ h' tk', Rep (fx.pushL qs) σ W { s with heap := h', toks := tk' } → Q none { s with heap := h', toks := tk' }) → wpAny fx.M fx.A (pyNext (.ref Io)) Q E s

def IterT (fx : Fx) (X : XP) (iter : Expr) (σ : St) (P : List V → (St → Prop) → St → Prop) : Prop :=
  ∀ W s, Rep fx σ W s → wpAny fx.M fx.A (eval iter fx.env) (fun xv s₁ => wpAny fx.M fx.A (pyIter xv) (fun it s₂ => ∃ Io st ps W' σ' its need, it = .ref Io ∧ W.le W' ∧ Src fx W' its need Io st ∧ st 0 ps ∧ ExOk fx ps ∧
    Rep (fx.pushL ps) σ' W' s₂ ∧ P its need σ') (PX fx W X) s₁) (PX fx W X) s
theorem IterT.mono {iter : Expr} {P P' : List V → (St → Prop) → St → Prop} (h : IterT fx X iter σ P) (hp : ∀ its need σ', P its need σ' → P' its need σ') : IterT fx X iter σ P' := by
  refine fun W s R => wpAny_mono (h W s R) (fun _ _ x => wpAny_mono x ?_ fun _ _ e => e) fun _ _ e => e
  rintro _ _ ⟨Io, st, ps, W', σ', its, need, a, b, c, d, e, f, g⟩
  exact ⟨Io, st, ps, W', σ', its, need, a, b, c, d, e, f, hp _ _ _ g⟩

def AsgT (fx : Fx) (X : XP) (t : Expr) (v : V) (σ : St) (Q : St → Prop) : Prop :=
  ∀ W s u, Rep fx σ W s → VR W v u → wpAny fx.M fx.A (assign t fx.env u) (PU fx W Q) (PX fx W X) s
theorem asgName (ok : FxAll fx) {x : Str} {p : Pos} {v : V} {Q : St → Prop} (hx : isVar fx x) (h : Q (σ.set x v)) : AsgT fx X (.Name x p) v σ Q := fun W _ _ R r =>
  wpAny_bind (wpAny_standAt (wpAny_bindName (storeVar ok hx R r fun _ _ R₂ => ⟨W, _, .refl _, R₂, h⟩)))

theorem evFor (ok : FxAll fx) (hL : fx.env.locals = fx.L) {t iter : Expr} {b : List Stmt} {pos : Pos} {Q : Fl → St → Prop}
    (h : IterT fx X iter σ (fun its need σ₁ => ∃ J : Nat → St → Prop, J 0 σ₁ ∧ (∀ k σ', J k σ' → need σ') ∧
      (∀ (k : Nat) σ' (hk : k < its.length), J k σ' → ∀ ps, FxAll (fx.pushL ps) → AsgT (fx.pushL ps) X t its[k] σ' (fun σ₁ => EvSs (fx.pushL ps) X b σ₁ (fun fl σ₂ => match fl with | .next | .cont => J (k + 1) σ₂ | .brk => Q .next σ₂ | .ret v => Q (.ret v) σ₂))) ∧
      ∀ σ', J its.length σ' → Q .next σ'))
    (hs : ∀ x, foldedSetIterable iter fx.env x = pure x) : EvS fx X (.For t iter b [] pos) σ Q := by
  intro W s R
  refine wpAny_For (wpAny_mono (h W s R) (fun xv s₁ h₁ => wpAny_mono h₁ (fun it s₂ h₂ => ?_) fun _ _ e => e) fun _ _ e => e) hs
  obtain ⟨Io, st, ps, W₀, σ₀, its, need, rfl, le₀, S, hst, hex, R₀, J, h0, hn, turn, fin⟩ := h₂
  have drop : ∀ ps' (σ' : St) W' s', ExOk fx ps' → Rep (fx.pushL ps') σ' W' s' → Rep fx σ' W' s' := fun ps' σ' W' s' o r => r.unpush o.loc
  refine codeAny_forLoop_any (fun n s' => ∃ k ps' W' σ', n = its.length - k ∧ k ≤ its.length ∧ W₀.le W' ∧ st k ps' ∧ ExOk fx ps' ∧ Rep (fx.pushL ps') σ' W' s' ∧ J k σ') ?_ its.length ⟨0, ps, W₀, σ₀, rfl, Nat.zero_le _, .refl _, hst, hex, R₀, h0⟩
  rintro n s' ⟨k, ps', W', σ', rfl, hk, le₁', hst', hex', R', hJ⟩
  have le' := le₀.trans le₁'
  rcases Nat.lt_or_ge k its.length with hlt | hge
  · refine S.next [] k ps' σ' W' s' hlt le₁' hst' hex' R' (hn k σ' hJ) _ _ fun u ps'' W'' h'' tk'' hst'' hkey le'' r'' R'' => ?_
    have hex'' : ExOk fx ps'' := ⟨hkey ▸ hex'.nd, hkey ▸ hex'.dis, hkey ▸ hex'.cel, hkey ▸ hex'.loc⟩
    refine S.own [] (k + 1) ps'' σ' W'' _ t u hst'' R'' _ _ ?_
    refine wpAny_mono (turn k σ' hlt hJ ps'' (ok.pushL hex'') W'' _ u R'' r'') ?_ fun _ _ x => ((x.pushL hex''.loc).mono (le'.trans le'') fun _ _ y => y).noted ok hL
    refine fun _ s₃ zz => zz.elim fun W₃ σ₃ le₃ R₃ h₃ => ?_
    refine wpAny_mono (h₃ W₃ s₃ R₃) ?_ fun _ _ x => ((x.pushL hex''.loc).mono ((le'.trans le'').trans le₃) fun _ _ y => y).noted ok hL
    refine fun f s₄ zz => zz.elim fun W₄ σ₄ fl le₄ R₄ r₄ h₄ => ?_
    have LE := ((le'.trans le'').trans le₃).trans le₄
    have LE₁ := ((le₁'.trans le'').trans le₃).trans le₄
    cases r₄ with
    | next => exact ⟨its.length - (k + 1), by omega, k + 1, ps'', W₄, σ₄, rfl, hlt, LE₁, hst'', hex'', R₄, h₄⟩
    | cont => exact ⟨its.length - (k + 1), by omega, k + 1, ps'', W₄, σ₄, rfl, hlt, LE₁, hst'', hex'', R₄, h₄⟩
    | brk => exact ⟨W₄, σ₄, .next, LE, drop _ _ _ _ hex'' R₄, .next, h₄⟩
    | ret r => exact ⟨W₄, σ₄, .ret _, LE, drop _ _ _ _ hex'' R₄, .ret r, h₄⟩
  · obtain rfl : k = its.length := Nat.le_antisymm hk hge
    exact S.done [] ps' σ' W' s' le₁' hst' hex' R' (hn _ σ' hJ) _ _ fun h'' tk'' R'' => wpAny_execs_nil ⟨W', σ', .next, le', R'', .next, fin σ' hJ⟩
end
end Mine

set_option autoImplicit false
namespace Mine
open PySem PySem.W PySem.Calls PySem.Spec PyProof.Rows

section
variable {fx : Fx} {X : XP} {σ : St} {W : Wd} {s : Shared}

theorem Rep.list_at (R : Rep fx σ W s) {i : Nat} {vs : List V} {u : Value} (ho : σ.hp[i]? = some (.list vs)) (r : VR W (.ref i) u) : ∃ a xs n, u = .ref a ∧ W.al[i]? = some a ∧ s.heap.get? a = some (listObj xs n) ∧ VRs W vs xs := by
  refine R.elim fun _ g m news G F N C => ?_
  obtain ⟨a, ob, h1, h2, h3⟩ := C.obs i _ ho
  cases r with
  | ref e =>
    rw [h1] at e
    cases e
    cases h3 with
    | list n q => exact ⟨a, _, n, rfl, h1, (N _ h2).1, q⟩
theorem Rep.tup_at (R : Rep fx σ W s) {vs : List V} {u : Value} (r : VR W (.tup vs) u) : ∃ a xs, u = .ref a ∧ s.heap.get? a = some (tupObj xs) ∧ VRs W vs xs := by
  refine R.elim fun _ g m news G F N C => ?_
  cases r with
  | tup e q => exact ⟨_, _, rfl, (N _ (C.tps _ e)).1, q⟩
theorem listObj_isList {h : Heap} {a : Addr} {xs : List Value} {n : Nat} (e : h.get? a = some (listObj xs n)) : h.IsList a xs.toArray := ⟨_, e, rfl, n, rfl⟩
theorem tupObj_isTup {h : Heap} {a : Addr} {xs : List Value} (e : h.get? a = some (tupObj xs)) : IsTup h a xs.toArray := ⟨_, e, rfl, 0, rfl⟩

/-! data -/
mutual
inductive Dat (hp : List O) : V → PyData → Prop
  | none : Dat hp .none .none
  | bool (b : Bool) : Dat hp (.bool b) (.bool b)
  | int (n : Int) : Dat hp (.int n) (.int n)
  | str (x : Str) : Dat hp (.str x) (.str x)
  | tup {vs : List V} {ds : List PyData} : Dats hp vs ds → Dat hp (.tup vs) (.tuple ds)
  | list {i : Nat} {vs : List V} {ds : List PyData} : hp[i]? = some (.list vs) → Dats hp vs ds → Dat hp (.ref i) (.list ds)
inductive Dats (hp : List O) : List V → List PyData → Prop
  | nil : Dats hp [] []
  | cons {v : V} {vs : List V} {d : PyData} {ds : List PyData} : Dat hp v d → Dats hp vs ds → Dats hp (v :: vs) (d :: ds)
end
mutual
theorem Dat.reads (R : Rep fx σ W s) : ∀ {v : V} {d : PyData}, Dat σ.hp v d → ∀ {u : Value}, VR W v u → ∃ as, Reads s.heap u d as
  | _, _, .none => fun r => by cases r; exact ⟨_, .none⟩
  | _, _, .bool b => fun r => by cases r; exact ⟨_, .bool b⟩
  | _, _, .int n => fun r => by cases r; exact ⟨_, .int n _⟩
  | _, _, .str x => fun r => by cases r; exact ⟨_, .str x _⟩
  | _, _, .tup ds => fun r => by
    obtain ⟨a, xs, rfl, h1, h2⟩ := R.tup_at r
    obtain ⟨as, q⟩ := Dats.reads R ds h2
    exact ⟨_, .tuple h1 rfl rfl (by simpa using q)⟩
  | _, _, .list ho ds => fun r => by
    obtain ⟨a, xs, n, rfl, _, h1, h2⟩ := R.list_at ho r
    obtain ⟨as, q⟩ := Dats.reads R ds h2
    exact ⟨_, .list h1 rfl rfl (by simpa using q)⟩
theorem Dats.reads (R : Rep fx σ W s) : ∀ {vs : List V} {ds : List PyData}, Dats σ.hp vs ds → ∀ {us : List Value}, VRs W vs us → ∃ as, ReadsAll s.heap us ds as
  | _, _, .nil => fun r => by cases r; exact ⟨_, .nil⟩
  | _, _, .cons a b => fun r => by
    cases r with
    | cons c d =>
      obtain ⟨as, h1⟩ := Dat.reads R a c
      obtain ⟨bs, h2⟩ := Dats.reads R b d
      exact ⟨_, .cons h1 h2⟩
end

theorem dats_ints (hp : List O) : ∀ ns : List Int, Dats hp (ns.map .int) (ns.map .int)
  | [] => .nil
  | n :: r => .cons (.int n) (dats_ints hp r)

/-! binary operations -/
theorem bin_addT {x y : Int} {Q : V → St → Prop} (h : Q (.int (x + y)) σ) : BinT fx X .Add (.int x) (.int y) σ Q := by
  intro W s u₁ u₂ R r₁ r₂; cases r₁; cases r₂; exact add_int (.here (R.toks _) (.int _ _) h)
theorem bin_subT {x y : Int} {Q : V → St → Prop} (h : Q (.int (x - y)) σ) : BinT fx X .Sub (.int x) (.int y) σ Q := by
  intro W s u₁ u₂ R r₁ r₂; cases r₁; cases r₂; exact sub_int (.here (R.toks _) (.int _ _) h)
theorem bin_mulT {x y : Int} {Q : V → St → Prop} (q : x.natAbs < 2 ^ 64 ∨ y.natAbs < 2 ^ 64) (h : Q (.int (x * y)) σ) : BinT fx X .Mult (.int x) (.int y) σ Q := by
  intro W s u₁ u₂ R r₁ r₂; cases r₁; cases r₂
  refine PyProof.Rows.mul_int (.here (R.toks _) (.int _ _) h) ?_
  rcases q with q | q
  · exact .of_left (intBits_le q)
  · exact .of_right (intBits_le q)
theorem bin_modT {x y : Int} {Q : V → St → Prop} (q : 0 < y) (h : Q (.int (x % y)) σ) : BinT fx X .Mod (.int x) (.int y) σ Q := by
  intro W s u₁ u₂ R r₁ r₂; cases r₁; cases r₂
  exact mod_int' (Int.ne_of_gt q) (.here (R.toks _) (.int _ _) (by rw [Int.fmod_eq_emod_of_nonneg _ (Int.le_of_lt q)]; exact h))
theorem bin_divT {x y : Int} {Q : V → St → Prop} (q : 0 < y) (q' : y < 2 ^ 30) (h : Q (.int (x / y)) σ) : BinT fx X .FloorDiv (.int x) (.int y) σ Q := by
  intro W s u₁ u₂ R r₁ r₂; cases r₁; cases r₂
  exact floordiv_int (Int.ne_of_gt q) (.here (R.toks _) (.int _ _) (by rw [Int.fdiv_eq_ediv_of_nonneg _ (Int.le_of_lt q)]; exact h)) (.inl (PyProof.noPylong_small (by omega)))
theorem bin_powT {x y : Int} {Q : V → St → Prop} (q : 0 ≤ y ∧ y ≤ 1000000 ∧ x.natAbs < 2 ^ 64) (h : Q (.int (x ^ y.toNat)) σ) : BinT fx X .Pow (.int x) (.int y) σ Q := by
  intro W s u₁ u₂ R r₁ r₂; cases r₁; cases r₂; exact pow_int_small q.1 q.2.1 q.2.2 (.here (R.toks _) (.int _ _) h)
theorem bin_listsT {i j : Nat} {vs ws : List V} {Q : V → St → Prop} (h1 : σ.hp[i]? = some (.list vs)) (h2 : σ.hp[j]? = some (.list ws)) (h3 : vs.length + ws.length ≤ sizeLine) (h4 : Q (.ref σ.hp.length) ⟨σ.loc, σ.hp ++ [.list (vs ++ ws)]⟩) : BinT fx X .Add (.ref i) (.ref j) σ Q := by
  intro W s u₁ u₂ R r₁ r₂
  obtain ⟨a, xs, n, rfl, _, k1, k2⟩ := R.list_at h1 r₁
  obtain ⟨b, ys, n', rfl, _, k3, k4⟩ := R.list_at h2 r₂
  refine R.elim fun er g m news G F N C => ?_
  refine add_lists F N (listObj_isList k1) (listObj_isList k3) (fun h' F' N' => ?_) (by rw [← k2.length, ← k4.length]; exact h3)
  obtain ⟨W', le', hD, R'⟩ := Rep.addN er G C (o := .list (vs ++ ws)) F' N' (fun p hp => Nat.ne_of_lt (Heap.lt_size (N p hp).1)) fun W' le => .list 0 ((k2.mono le).append (k4.mono le))
  exact ⟨W', _, .ref σ.hp.length, le', R', .ref hD, h4⟩

/-! comparisons -/
theorem cmp_eqT (hu : fx.A.units + 64 < cLine) {a b : V} {da db : PyData} {Q : V → St → Prop} (h1 : Dat σ.hp a da) (h2 : Dat σ.hp b db) (h3 : PySem.SeqAt.shaped da = true) (h4 : PySem.SeqAt.shaped db = true) (h5 : Q (.bool (PyData.eqv da db)) σ) : CmpT fx X .Eq a b σ Q := by
  intro W s u₁ u₂ R r₁ r₂
  obtain ⟨as, ra⟩ := h1.reads R r₁
  obtain ⟨bs, rb⟩ := h2.reads R r₂
  exact eq_dataH ra rb h3 h4 hu (.here R (.bool _) h5)
theorem cmp_neT (hu : fx.A.units + 64 < cLine) {a b : V} {da db : PyData} {Q : V → St → Prop} (h1 : Dat σ.hp a da) (h2 : Dat σ.hp b db) (h3 : PySem.SeqAt.shaped da = true) (h4 : PySem.SeqAt.shaped db = true) (h5 : Q (.bool (!PyData.eqv da db)) σ) : CmpT fx X .NotEq a b σ Q := by
  intro W s u₁ u₂ R r₁ r₂
  obtain ⟨as, ra⟩ := h1.reads R r₁
  obtain ⟨bs, rb⟩ := h2.reads R r₂
  exact ne_dataH ra rb h3 h4 hu (.here R (.bool _) h5)
theorem cmp_ltT {x y : Int} {Q : V → St → Prop} (h : Q (.bool (decide (x < y))) σ) : CmpT fx X .Lt (.int x) (.int y) σ Q := by
  intro W s u₁ u₂ R r₁ r₂; cases r₁; cases r₂; exact lt_int (.here R (.bool _) h)
theorem cmp_gtT {x y : Int} {Q : V → St → Prop} (h : Q (.bool (decide (y < x))) σ) : CmpT fx X .Gt (.int x) (.int y) σ Q := by
  intro W s u₁ u₂ R r₁ r₂; cases r₁; cases r₂; exact gt_int (.here R (.bool _) h)
theorem cmp_leT {x y : Int} {Q : V → St → Prop} (h : Q (.bool (decide (x ≤ y))) σ) : CmpT fx X .LtE (.int x) (.int y) σ Q := by
  intro W s u₁ u₂ R r₁ r₂; cases r₁; cases r₂; exact le_int (.here R (.bool _) h)
theorem tru_boolT {b : Bool} {Q : Bool → St → Prop} (h : Q b σ) : TruT fx X (.bool b) σ Q := by
  intro W s u R r; cases r; exact wpAny_truthy_bool (.here R h)
theorem un_notT {v : V} {Q : V → St → Prop} (h : TruT fx X v σ fun b σ' => Q (.bool (!b)) σ') : UnT fx X .Not v σ Q := by
  intro W s u R r
  refine not_of (wpAny_mono (h W s u R r) ?_ fun _ _ x => x)
  refine fun b s₁ zz => zz.elim fun W₁ σ₁ a b' c => ?_
  exact ⟨W₁, σ₁, _, a, b', .bool _, c⟩
theorem un_negT {n : Int} {Q : V → St → Prop} (h : Q (.int (-n)) σ) : UnT fx X .USub (.int n) σ Q := by
  intro W s u R r; cases r; exact PyProof.Rows.neg_int (.here (R.toks _) (.int _ _) h)
end
end Mine

set_option autoImplicit false
namespace Mine
open PySem PySem.W PySem.Calls PySem.Spec PyProof.Rows

/-! sources of loops -/
theorem own_go {M : Model} {A : Around} {E : Value → Shared → Prop} {s : Shared} {Io : Addr} {ob : Obj} {n : String} {vs : Array Value} (hg : s.heap.get? Io = some ob) (hc : ob.cls = .type n) (hd : ob.data = .fields vs)
    (hn : (["enumerate", "zip", "dict_itemiterator", "dict_reverseitemiterator", "odict_iterator", "itertools.zip_longest", "itertools.pairwise"] : List String).contains n = false) (t : Expr) (u : Value) {Q : Unit → Shared → Prop} (q : Q () s) :
    wpAny M A (letOwnedTupleGo t (.ref Io) u) Q E s := by
  unfold letOwnedTupleGo
  split
  · split
    · rename_i e
      cases e
      refine wpAny_bind (wpAny_load hg ?_)
      rw [hc, hd]
      dsimp only
      rw [hn]
      exact wpAny_pure q
    · exact wpAny_pure q
  · split
    · rename_i e
      cases e
      refine wpAny_bind (wpAny_load hg ?_)
      rw [hc, hd]
      dsimp only
      rw [hn]
      exact wpAny_pure q
    · exact wpAny_pure q
  · exact wpAny_pure q

section
variable {fx : Fx} {X : XP} {σ : St} {W : Wd} {s : Shared}

def listItSt (Io a : Addr) (k : Nat) (ps : List (Addr × Obj)) : Prop := ∃ ob : Obj, ps = [(Io, ob)] ∧ ob.cls = .type "list_iterator" ∧ ob.data = .fields #[.ref a, .int k 0]

theorem src_list (hh : fx.A.handled = none) {i : Nat} {its : List V} {a Io : Addr} (ha : W.al[i]? = some a) : Src fx W its (fun σ' => σ'.hp[i]? = some (.list its)) Io (listItSt Io a) where
  tup := by
    rintro k ps ⟨ob, rfl, hc, hd⟩ p hp xs e
    rw [List.mem_singleton.mp hp] at e
    rw [show ob = tupObj xs from e] at hc
    simp at hc
  own := by
    rintro qs k ps σ' W' s' t u ⟨ob, rfl, hc, hd⟩ R Q E q
    exact own_go (R.exPop (List.mem_singleton.mpr rfl)) hc hd (by decide) t u q
  self := by
    rintro qs k ps σ' W' s' ⟨ob, rfl, hc, hd⟩ R Q E q
    exact wpAny_pyIter_listiter ⟨ob, R.exPop (List.mem_singleton.mpr rfl), hc, hd⟩ q
  next := by
    rintro qs k ps σ' W' s' hk le ⟨ob, rfl, hc, hd⟩ ok R need Q E q
    have hg := R.exPop (List.mem_singleton.mpr rfl)
    obtain ⟨a', xs, n, ea, h1, h2, h3⟩ := R.list_at need (.ref (prefix_get le.1 ha))
    cases ea
    obtain ⟨x, hx, hv⟩ := h3.get (show its[k]? = some its[k] by simp [hk])
    refine wpAny_pyNext_list_item ⟨ob, hg, hc, hd⟩ (listObj_isList h2) (by simpa using hx) fun h' hit hs => ?_
    obtain ⟨ob', hg', hc', hd'⟩ := hit
    have R' := R.exSwap ok [(Io, ob')] rfl s'.toks
      (fun b o hb e => (hs.2 b (by simpa using hb)).trans e) (fun p hp => by rw [List.mem_singleton.mp hp]; exact hg')
    exact q x [(Io, ob')] W' h' s'.toks ⟨ob', rfl, hc', hd'⟩ rfl (.refl _) hv R'
  done := by
    rintro qs ps σ' W' s' le ⟨ob, rfl, hc, hd⟩ ok R need Q E q
    have hg := R.exPop (List.mem_singleton.mpr rfl)
    obtain ⟨a', xs, n, ea, h1, h2, h3⟩ := R.list_at need (.ref (prefix_get le.1 ha))
    cases ea
    refine wpAny_pyNext_list_end hh ⟨ob, hg, hc, hd⟩ (listObj_isList h2) (by simp [h3.length]) fun h' he => ?_
    exact q h' s'.toks (R.exDrop ok _ fun b o hb e => he b o (by simpa using hb) e)

def rngItems (a : Int) (n : Nat) : List V := (List.range n).map fun (j : Nat) => V.int (a + (j : Int))
theorem rngItems_length (a : Int) (n : Nat) : (rngItems a n).length = n := by simp [rngItems]
theorem rngItems_get (a : Int) (n k : Nat) (h : k < (rngItems a n).length) : (rngItems a n)[k] = .int (a + (k : Int)) := by simp [rngItems]

abbrev rngObj (x l : Int) : Obj := { cls := .type "range_iterator", dict := none, data := .fields #[rawInt x, rawInt l, rawInt 1], slots := #[] }
theorem rngObj_not (x l : Int) (xs : List Value) : rngObj x l ≠ tupObj xs := fun e => by
  have := congrArg Obj.cls e
  simp at this
def rngItSt (Io : Addr) (a : Int) (n : Nat) (k : Nat) (ps : List (Addr × Obj)) : Prop :=
  ps = [(Io, rngObj (a + (k : Int)) ((n : Int) - (k : Int)))]

theorem src_range (hh : fx.A.handled = none) {a : Int} {n : Nat} {Io : Addr} : Src fx W (rngItems a n) (fun _ => True) Io (rngItSt Io a n) where
  tup := by
    rintro k ps rfl p hp xs e
    rw [List.mem_singleton.mp hp] at e
    exact rngObj_not _ _ _ e
  own := by
    rintro qs k ps σ' W' s' t u rfl R Q E q
    exact own_go (R.exPop (List.mem_singleton.mpr rfl)) rfl rfl (by decide) t u q
  self := by
    rintro qs k ps σ' W' s' rfl R Q E q
    exact wpAny_pyIter_rangeiter (R.exPop (List.mem_singleton.mpr rfl)) q
  next := by
    rintro qs k ps σ' W' s' hk le rfl ok R need Q E q
    have hg := R.exPop (List.mem_singleton.mpr rfl)
    have hk' : k < n := by rwa [rngItems_length] at hk
    refine wpAny_pyNext_range_item (it := Io) (x := a + (k : Int)) (left := (n : Int) - (k : Int)) (step := 1) hg (by omega) fun h' hit hs => ?_
    have e1 : a + (k : Int) + 1 = a + ((k + 1 : Nat) : Int) := by push_cast; omega
    have e2 : (n : Int) - (k : Int) - 1 = (n : Int) - ((k + 1 : Nat) : Int) := by push_cast; omega
    rw [e1, e2] at hit
    have R' := R.exSwap ok [(Io, rngObj (a + ((k + 1 : Nat) : Int)) ((n : Int) - ((k + 1 : Nat) : Int)))] rfl (s'.toks + 1)
      (fun b o hb e => (hs.2 b (by simpa using hb)).trans e) (fun p hp => by rw [List.mem_singleton.mp hp]; exact hit)
    exact q _ _ W' h' (s'.toks + 1) rfl rfl (.refl _) (by rw [rngItems_get]; exact .int _ _) R'
  done := by
    rintro qs ps σ' W' s' le hst ok R need Q E q
    rw [rngItems_length] at hst
    cases hst
    have hg := R.exPop (List.mem_singleton.mpr rfl)
    refine wpAny_pyNext_range_end (it := Io) (x := a + (n : Int)) (left := (n : Int) - (n : Int)) (step := 1) hh hg (by omega) fun h' he => ?_
    exact q h' s'.toks (R.exDrop ok _ fun b o hb e => he b o (by simpa using hb) e)

/-- the iterator made -/
def PIt (fx : Fx) (W : Wd) (P : List V → (St → Prop) → St → Prop) : Value → Shared → Prop := fun it s₂ => ∃ Io st ps W' σ' its need, it = .ref Io ∧ W.le W' ∧ Src fx W' its need Io st ∧ st 0 ps ∧ ExOk fx ps ∧
    Rep (fx.pushL ps) σ' W' s₂ ∧ P its need σ'

def SrvT (fx : Fx) (v : V) (σ : St) (P : List V → (St → Prop) → St → Prop) : Prop := ∀ W s u (E : Value → Shared → Prop), Rep fx σ W s → VR W v u → wpAny fx.M fx.A (pyIter u) (PIt fx W P) E s
theorem srv_refT (ok : FxAll fx) (hq : fx.qt = true) {i : Nat} {its : List V} {P : List V → (St → Prop) → St → Prop} (e : σ.hp[i]? = some (.list its)) (h : P its (fun σ' => σ'.hp[i]? = some (.list its)) σ) : SrvT fx (.ref i) σ P := by
  intro W s u E R r
  obtain ⟨a, xs, n, rfl, ha, h2, h3⟩ := R.list_at e r
  refine wpAny_pyIter_list (listObj_isList h2) ?_
  obtain ⟨R', ok'⟩ := R.exPush [(s.heap.objs.size, ({ cls := .type "list_iterator", data := .fields #[.ref a, .int 0 0] } : Obj))] (by simp) s.toks
    (fun b o e => Heap.get?_push_of_some _ e) (fun p hp => by rw [List.mem_singleton.mp hp]; exact Nat.le_refl _) (fun p hp => by rw [List.mem_singleton.mp hp]; exact Heap.get?_push_size _ rfl) (R.locals_at ok)
  exact ⟨_, _, _, W, σ, its, _, rfl, .refl _, src_list (ok.ok.handled hq) ha, ⟨_, rfl, rfl, rfl⟩, ok', R', h⟩
/-! calls of the built-in functions -/
def CallT (fx : Fx) (X : XP) (f : Value) (vs : List V) (σ : St) (Q : V → St → Prop) : Prop :=
  ∀ W s us, Rep fx σ W s → VRs W vs us → wpAny fx.M fx.A (call f us) (PV fx W Q) (PX fx W X) s

theorem ScrAt (ok : FxAll fx) {σ : St} (R : Rep fx σ W s) : ∃ xs, s.heap.IsList W.sc (List.toArray xs) ∧ IntsAre xs fx.ns ∧ fx.ns.length < 2 ^ 62 := by
  have st := ok.stays R
  refine R.elim fun _ g m news G F N C => ?_
  obtain ⟨xs, n, o, h1, h2, h3, h4, h5⟩ := ok.scr
  exact ⟨xs, ⟨o, st _ _ (C.scc ▸ h1), h2, n, h3⟩, h4, h5⟩

theorem len_refT {i : Nat} {vs : List V} {Q : V → St → Prop} (ev : σ.hp[i]? = some (.list vs)) (hn : vs.length < 2 ^ 63) (h : Q (.int vs.length) σ) : CallT fx X (.builtin "len") [.ref i] σ Q := by
  intro W s us R r
  cases r with
  | cons r r' =>
    cases r'
    obtain ⟨a, xs, c, rfl, ha, h2, h3⟩ := R.list_at ev r
    refine call_len_list (listObj_isList h2) (by simp [← h3.length]; omega) ?_
    have e1 : (xs.toArray.size : Int) = (vs.length : Int) := by simp [h3.length]
    rw [e1]
    exact .here (R.toks _) (.int _ _) h
theorem len_scrT (ok : FxAll fx) {Q : V → St → Prop} (h : Q (.int fx.ns.length) σ) : CallT fx X (.builtin "len") [.scr] σ Q := by
  intro W s us R r
  cases r with
  | cons r r' =>
    cases r'
    cases r
    obtain ⟨xs, h1, h2, h3⟩ := ScrAt ok R
    refine call_len_list h1 (by simp [h2.length]; omega) ?_
    have e1 : (xs.toArray.size : Int) = (fx.ns.length : Int) := by simp [h2.length]
    rw [e1]
    exact .here (R.toks _) (.int _ _) h

theorem intBool_ok {b : Bool} {Q : V → St → Prop} (h : Q (.int (if b then 1 else 0)) σ) : CallT fx X (.type "int") [.bool b] σ Q := by
  intro W s us R r
  cases r with
  | cons r₁ r =>
    cases r; cases r₁
    exact call_int_bool (.here (R.toks _) (.int _ _) h)

theorem listOf_ok {v : V} {vs : List V} {Q : V → St → Prop} (e : (∃ i, v = .ref i ∧ σ.hp[i]? = some (.list vs)) ∨ v = .tup vs) (hl : vs.length ≤ sizeLine) (h : Q (.ref σ.hp.length) ⟨σ.loc, σ.hp ++ [.list vs]⟩) : CallT fx X (.type "list") [v] σ Q := by
  intro W s us R r
  cases r with
  | cons r₁ r =>
    cases r
    have fin : ∀ (xs : List Value) (c' : Nat) (h' : Heap), VRs W vs xs → (∀ b o', s.heap.get? b = some o' → h'.get? b = some o') → h'.get? s.heap.objs.size = some (listObj xs c') → PV fx W Q (.ref s.heap.objs.size) { s with heap := h' } := by
      intro xs c' h' hv hk hg
      refine R.elim fun er g m news G F N C => ?_
      have hle : W.le ⟨W.al ++ [s.heap.objs.size], W.tp, W.sc⟩ := ⟨List.prefix_append _ _, fun _ h => h, rfl⟩
      have fresh : ∀ p ∈ news, p.1 ≠ s.heap.objs.size := fun p hp => Nat.ne_of_lt (Heap.lt_size (N p hp).1)
      obtain ⟨oL, _, _, hL, _⟩ := F.ns
      refine ⟨⟨W.al ++ [s.heap.objs.size], W.tp, W.sc⟩, ⟨σ.loc, σ.hp ++ [.list vs]⟩, .ref σ.hp.length, hle, ⟨rest_with er _ _, g, m, (s.heap.objs.size, listObj xs c') :: news, G, frKeeps F hk, fun p hp => ?_, ?_⟩, .ref (by simp [← C.len]), h⟩
      · rcases List.mem_cons.mp hp with rfl | hp
        · refine ⟨hg, Nat.ne_of_gt (Heap.lt_size hL), ?_⟩
          cases hq : g.get? s.heap.objs.size with
          | none => rfl
          | some o' => exact absurd (Heap.lt_size (F.keep _ _ hq)) (Nat.lt_irrefl _)
        · exact ⟨hk _ _ (N p hp).1, (N p hp).2⟩
      · refine ⟨newsNodup N C.nd _, fun p hp => .tail _ (C.exs p hp), fun p hp hm => ?_, ?_, by simp [C.len], fun i o' h => ?_, fun t ht => .tail _ (C.tps t ht), fun x v h => ?_, fun x c h => ?_, C.scc, C.mfx, C.ext⟩
        · rcases List.mem_append.mp hm with hm | hm
          · exact C.exd p hp hm
          · exact fresh p (C.exs p hp) (List.mem_singleton.mp hm)
        · refine List.nodup_append.mpr ⟨C.aln, by simp, fun a ha b hb => ?_⟩
          rw [List.mem_singleton.mp hb]
          obtain ⟨o', ho'⟩ := C.al_lt ha
          exact fresh _ ho'
        · dsimp only at h
          rcases Nat.lt_trichotomy i σ.hp.length with q | q | q
          · rw [List.getElem?_append_left q] at h
            obtain ⟨a, ob', h1, h2, h3⟩ := C.obs i o' h
            exact ⟨a, ob', prefix_get hle.1 h1, .tail _ h2, h3.mono hle⟩
          · subst q
            simp at h
            subst h
            exact ⟨_, _, by simp [← C.len], .head _, .list c' (hv.mono hle)⟩
          · rw [List.getElem?_eq_none (by simp; omega)] at h
            cases h
        · obtain ⟨u, h1, h2⟩ := C.loc x v h
          exact ⟨u, h1.mono hle, h2.mono fun p hp => .tail _ hp⟩
        · obtain ⟨h1, o', v, h2, h3⟩ := C.cel x c h
          refine ⟨fun hm => ?_, o', v, .tail _ h2, h3⟩
          rcases List.mem_append.mp hm with hm | hm
          · exact h1 hm
          · exact fresh _ h2 (List.mem_singleton.mp hm)
    rcases e with ⟨i, rfl, hi⟩ | rfl
    · obtain ⟨a, xs, c, rfl, ha, h2, h3⟩ := R.list_at hi r₁
      exact call_list_seq (hsz := by simp [← h3.length]; exact hl) a (.inl rfl) h2 rfl rfl fun h' c' hk hD => fin xs c' h' h3 hk hD
    · obtain ⟨a, xs, rfl, h2, h3⟩ := R.tup_at r₁
      exact call_list_seq (hsz := by simp [← h3.length]; exact hl) a (.inr rfl) h2 rfl rfl fun h' c' hk hD => fin xs c' h' h3 hk hD

theorem isi_list {a : Addr} {o : Obj} {T : String} {A : Around} {E : Value → Shared → Prop} {prog : Program} {w : World} {Q : Value → Shared → Prop} (ho : s.heap.get? a = some o) (hc : o.cls = .type "list") (hT : T = "int" ∨ T = "bool" ∨ T = "list" ∨ T = "tuple" ∨ T = "str")
    (h : ∀ tk, Q (.bool (decide (T = "list"))) { s with toks := tk }) : wpAny (model prog w) A (call (.builtin "isinstance") [.ref a, .type T]) Q E s := by
  have no : ∀ T, (Value.type "list" == Value.type T) = false → typeOf (.type T) = pure (.type "type") → isSubtype (.type "list") (.type T) = pure false → (∀ tk, Q (.bool false) { s with toks := tk }) → wpAny (model prog w) A (call (.builtin "isinstance") [.ref a, .type T]) Q E s :=
    fun T h1 h2 h3 k => call_isinstance (isinstance_false_list h1 h2 h3) ⟨⟨o, ho, hc⟩, k _⟩
  rcases hT with rfl | rfl | rfl | rfl | rfl
  · exact no "int" (by decide) F.isi_meta_int (by rw [isSubtype_type]; kernel_rfl) h
  · exact no "bool" (by decide) F.isi_meta_bool (by rw [isSubtype_type]; kernel_rfl) h
  · exact call_isinstance (isinstance_true (Tx := "list") F.isi_meta_list (by rw [isSubtype_type]; kernel_rfl)) ⟨⟨o, ho, hc⟩, h s.toks⟩
  · exact no "tuple" (by decide) F.isi_meta_tuple (by rw [isSubtype_type]; kernel_rfl) h
  · exact no "str" (by decide) F.isi_meta_str (by rw [isSubtype_type]; kernel_rfl) h
theorem isi_tup {a : Addr} {o : Obj} {T : String} {A : Around} {E : Value → Shared → Prop} {prog : Program} {w : World} {Q : Value → Shared → Prop} (ho : s.heap.get? a = some o) (hc : o.cls = .type "tuple") (hT : T = "int" ∨ T = "bool" ∨ T = "list" ∨ T = "tuple" ∨ T = "str")
    (h : ∀ tk, Q (.bool (decide (T = "tuple"))) { s with toks := tk }) : wpAny (model prog w) A (call (.builtin "isinstance") [.ref a, .type T]) Q E s := by
  have no : ∀ T, (Value.type "tuple" == Value.type T) = false → typeOf (.type T) = pure (.type "type") → isSubtype (.type "tuple") (.type T) = pure false → (∀ tk, Q (.bool false) { s with toks := tk }) → wpAny (model prog w) A (call (.builtin "isinstance") [.ref a, .type T]) Q E s :=
    fun T h1 h2 h3 k => call_isinstance (isinstance_false_tuple h1 h2 h3) ⟨⟨o, ho, hc⟩, k _⟩
  rcases hT with rfl | rfl | rfl | rfl | rfl
  · exact no "int" (by decide) F.isi_meta_int (by rw [isSubtype_type]; kernel_rfl) h
  · exact no "bool" (by decide) F.isi_meta_bool (by rw [isSubtype_type]; kernel_rfl) h
  · exact no "list" (by decide) F.isi_meta_list (by rw [isSubtype_type]; kernel_rfl) h
  · exact call_isinstance (isinstance_true (Tx := "tuple") F.isi_meta_tuple (by rw [isSubtype_type]; kernel_rfl)) ⟨⟨o, ho, hc⟩, h s.toks⟩
  · exact no "str" (by decide) F.isi_meta_str (by rw [isSubtype_type]; kernel_rfl) h

/-- isinstance, by how the value lies -/
theorem isi_of {v : V} {T : String} {c : Bool} {Q : V → St → Prop} (e : ∀ W s u (Q : Value → Shared → Prop) (E : Value → Shared → Prop), Rep fx σ W s → VR W v u → (∀ tk, Q (.bool c) { s with toks := tk }) → wpAny fx.M fx.A (call (.builtin "isinstance") [u, .type T]) Q E s) (h : Q (.bool c) σ) : CallT fx X (.builtin "isinstance") [v, .glob (.type T)] σ Q := by
  intro W s us R r
  cases r with
  | cons r₁ r =>
    cases r with
    | cons r₂ r =>
      cases r; cases r₂
      exact e W s _ _ _ R r₁ fun tk => .here (R.toks tk) (.bool _) h

/-! places -/
def getI (xs : List V) (k : Int) : Option V := if 0 ≤ k then xs[k.toNat]? else if -(xs.length : Int) ≤ k then xs[(k + xs.length).toNat]? else none

def SubT (fx : Fx) (X : XP) (value slice : Expr) (o i : V) (σ : St) (Q : V → St → Prop) : Prop :=
  ∀ W s u₁ u₂, Rep fx σ W s → VR W o u₁ → VR W i u₂ → wpAny fx.M fx.A (subscriptTail value slice u₁ u₂) (PV fx W Q) (PX fx W X) s

def notSlice : Expr → Bool
  | .Slice .. => false
  | _ => true
theorem subscripted_plain {slice : Expr} (h : notSlice slice = true) (o i : Value) : subscripted slice false o i = operate [o, i] (getItem o i) := by
  cases slice <;> first | rfl | cases h

theorem sub_list {value slice : Expr} (hs : notSlice slice = true) {j : Nat} {xs : List V} {k : Int} {v : V} {Q : V → St → Prop} (ho : σ.hp[j]? = some (.list xs)) (hk : -(2 ^ 63) ≤ k ∧ k < 2 ^ 63) (e : getI xs k = some v) (h : Q v σ) :
    SubT fx X value slice (.ref j) (.int k) σ Q := by
  intro W s u₁ u₂ R r₁ r₂
  obtain ⟨a, ys, n, rfl, ha, h2, h3⟩ := R.list_at ho r₁
  cases r₂
  have hl := listObj_isList h2
  refine tail_any hl.typeIs slot_list_getitem.lookup ?_ (subscripted_plain hs _ _)
  unfold getI at e
  split at e
  · rename_i h0
    obtain ⟨x, hx, hv⟩ := h3.get e
    exact wpAny_getItem_list hl h0 hk.2 (by simpa using hx) (.here R hv h)
  · rename_i h0
    split at e
    · rename_i h1
      obtain ⟨x, hx, hv⟩ := h3.get e
      exact wpAny_getItem_list_neg hl (by omega) (by simpa [h3.length] using h1) hk.1 (by simpa [h3.length] using hx) (.here R hv h)
    · cases e
theorem sub_scr (ok : FxAll fx) {value slice : Expr} (hs : notSlice slice = true) {k : Int} {n : Int} {Q : V → St → Prop} (h0 : 0 ≤ k) (e : fx.ns[k.toNat]? = some n) (h : Q (.int n) σ) :
    SubT fx X value slice .scr (.int k) σ Q := by
  intro W s u₁ u₂ R r₁ r₂
  cases r₁; cases r₂
  obtain ⟨xs, h1, h2, h3⟩ := ScrAt ok R
  obtain ⟨t, hx⟩ := h2.get k.toNat n e
  have hlt : k.toNat < fx.ns.length := by
    rcases Nat.lt_or_ge k.toNat fx.ns.length with z | z
    · exact z
    · rw [List.getElem?_eq_none z] at e; cases e
  refine tail_any h1.typeIs slot_list_getitem.lookup ?_ (subscripted_plain hs _ _)
  exact wpAny_getItem_list h1 h0 (by omega) (by simpa using hx) (.here R (.int _ _) h)

theorem evSub {value slice : Expr} {pos : Pos} {Q : V → St → Prop} (h : EvE fx X value σ (fun o σ₁ => EvE fx X slice σ₁ (fun i σ₂ => SubT fx X value slice o i σ₂ Q))) : EvE fx X (.Subscript value slice pos) σ Q := by
  intro W s R
  refine Subscript_ (wpAny_mono (h W s R) ?_ fun _ _ x => x)
  refine fun u₁ s₁ zz => zz.elim fun W₁ σ₁ a le₁ R₁ r₁ h₁ => ?_
  refine wpAny_mono (h₁ W₁ s₁ R₁) ?_ fun _ _ x => x.mono le₁ fun _ _ y => y
  refine fun u₂ s₂ zz => zz.elim fun W₂ σ₂ b le₂ R₂ r₂ h₂ => ?_
  exact wpAny_mono (h₂ W₂ s₂ u₁ u₂ R₂ (r₁.mono le₂) r₂) (fun _ _ x => x.mono (le₁.trans le₂) fun _ _ y => y) fun _ _ x => x.mono (le₁.trans le₂) fun _ _ y => y

/-! a list grows -/
theorem append_ok {i : Nat} {vs : List V} {v : V} {Q : V → St → Prop} (ho : σ.hp[i]? = some (.list vs)) (hl : vs.length ≤ sizeLine) (h : Q .none ⟨σ.loc, σ.hp.set i (.list (vs ++ [v]))⟩) : CallT fx X (.builtin "list.append") [.ref i, v] σ Q := by
  intro W s us R r
  cases r with
  | cons r₁ r =>
    cases r with
    | cons r₂ r =>
      cases r
      obtain ⟨a, xs, n, rfl, ha, h2, h3⟩ := R.list_at ho r₁
      refine wpAny_list_append_plain (hsz := by simp [← h3.length]; exact hl) ⟨n, h2⟩ fun h' hp hs => ?_
      obtain ⟨n', hg⟩ := hp
      rename_i y
      refine ⟨W, _, .none, .refl _, R.upd ho ha (.list (xs := xs ++ [y]) n' (h3.append (.cons r₂ .nil))) s.toks hs.extBut (by simpa using hg), .none, h⟩

/-- a method of a built-in type is found -/
def GetM (fx : Fx) (v : V) (name : Str) (id : String) (σ : St) : Prop := ∀ W s u (pl : Sem Bool) (Q : Value × List Value → Shared → Prop) (E : Value → Shared → Prop), Rep fx σ W s → VR W v u → Q (.builtin id, [u]) s → wpAny fx.M fx.A (getMethod u name pl) Q E s

theorem getM_list {i : Nat} {vs : List V} {name : Str} {id : String} (ho : σ.hp[i]? = some (.list vs)) (slot : Slot "list" name id) (hty : typeOf (.builtin id) = pure (.type "method_descriptor")) : GetM fx (.ref i) name id σ := by
  intro W s u pl Q E R r q
  obtain ⟨a, xs, n, rfl, ha, h2, h3⟩ := R.list_at ho r
  exact getMethod_builtin ⟨_, h2, rfl⟩ PySem.F.plainAttrs_list slot hty (fun b e => by cases e; exact ⟨_, h2, rfl⟩) q

def noStar : Expr → Bool
  | .Starred .. => false
  | _ => true
theorem star_cons {e : Expr} (h : noStar e = true) (rest : List Expr) (env : Env) : starEach (e :: rest) env = (false, eval e env) :: starEach rest env := by
  cases e <;> first | rfl | cases h
theorem star_any : ∀ {es : List Expr}, es.all noStar = true → ∀ (pos : Pos) (env : Env), (backTo pos (starEach es env)).any (·.1) = false
  | [], _, _, _ => rfl
  | e :: r, h, pos, env => by
    rw [List.all_cons, Bool.and_eq_true] at h
    rw [star_cons h.1]
    have := star_any h.2 pos env
    simpa [backTo] using this

theorem evCallB (ok : FxAll fx) {f : Str} {p pos : Pos} {id : String} {e : Expr} {rest : List Expr} {Q : V → St → Prop} (hf : fx.pg.gl f = some (.builtin id)) (hk : fx.env.kindOf f = some .globalImplicit) (hd : (f == ("__debug__" : Str)) = false) (hs : (e :: rest).all noStar = true)
    (h : EvEs fx X (e :: rest) σ (fun vs σ₁ => CallT fx X (.builtin id) vs σ₁ Q)) : EvE fx X (.Call (.Name f p) (e :: rest) [] pos) σ Q := by
  intro W s R
  rw [List.all_cons, Bool.and_eq_true] at hs
  refine Call_Name rfl (ok.glb f _ p hf hk σ W s _ _ R ?_ hd)
  refine callWith_builtin1 (wpAny_mono (h W s pos R) ?_ fun _ _ x => x) (star_cons hs.1 _ _) (star_any hs.2 _ _)
  refine fun us s₁ zz => zz.elim fun W₁ σ₁ vs le₁ R₁ r₁ h₁ => ?_
  exact wpAny_mono (h₁ W₁ s₁ us R₁ r₁) (fun _ _ x => x.mono le₁ fun _ _ y => y) fun _ _ x => x.mono le₁ fun _ _ y => y
theorem evCallTy (ok : FxAll fx) {f : Str} {p pos : Pos} {T : String} {e : Expr} {rest : List Expr} {Q : V → St → Prop} (hf : fx.pg.gl f = some (.type T)) (hk : fx.env.kindOf f = some .globalImplicit) (hd : (f == ("__debug__" : Str)) = false) (hs : (e :: rest).all noStar = true)
    (h : EvEs fx X (e :: rest) σ (fun vs σ₁ => CallT fx X (.type T) vs σ₁ Q)) : EvE fx X (.Call (.Name f p) (e :: rest) [] pos) σ Q := by
  intro W s R
  rw [List.all_cons, Bool.and_eq_true] at hs
  refine Call_Name rfl (ok.glb f _ p hf hk σ W s _ _ R ?_ hd)
  refine PyProof.Rows.callWith_type1 (wpAny_mono (h W s pos R) ?_ fun _ _ x => x) (star_cons hs.1 _ _) (star_any hs.2 _ _)
  refine fun us s₁ zz => zz.elim fun W₁ σ₁ vs le₁ R₁ r₁ h₁ => ?_
  exact wpAny_mono (h₁ W₁ s₁ us R₁ r₁) (fun _ _ x => x.mono le₁ fun _ _ y => y) fun _ _ x => x.mono le₁ fun _ _ y => y

def gV : Value → V
  | .int n _ => .int n
  | .str x _ => .str x
  | .bool b => .bool b
  | .none => .none
  | v => .glob v
theorem gV_ok (W : Wd) (v : Value) : VR W (gV v) v := by
  cases v <;> simp only [gV] <;> first | exact .none | exact .bool _ | exact .int _ _ | exact .str _ _ | exact .glob _
theorem evGlob (ok : FxAll fx) {x : Str} {pos : Pos} {v : Value} {Q : V → St → Prop} (hx : fx.pg.gl x = some v) (hk : fx.env.kindOf x = some .globalImplicit) (hd : (x == ("__debug__" : Str)) = false) (h : Q (gV v) σ) : EvE fx X (.Name x pos) σ Q :=
  fun W s R => ok.glb x v pos hx hk σ W s _ _ R (.here R (gV_ok W v) h) hd

def RngP (vs : List V) (P : List V → Prop) : Prop :=
  (∃ n : Int, vs = [.int n] ∧ (-(2 ^ 62) ≤ n ∧ n < 2 ^ 62) ∧ P (rngItems 0 n.toNat)) ∨ ∃ a b : Int, vs = [.int a, .int b] ∧ ((-(2 ^ 62) ≤ a ∧ a < 2 ^ 62) ∧ (-(2 ^ 62) ≤ b ∧ b < 2 ^ 62)) ∧ P (rngItems a (b - a).toNat)
theorem iter_range (ok : FxAll fx) (hq : fx.qt = true) {f : Str} {p pos : Pos} {e : Expr} {rest : List Expr} {P : List V → (St → Prop) → St → Prop} (hf : fx.pg.gl f = some (.type "range")) (hk : fx.env.kindOf f = some .globalImplicit) (hd : (f == ("__debug__" : Str)) = false) (hs : (e :: rest).all noStar = true)
    (h : EvEs fx X (e :: rest) σ (fun vs σ₁ => RngP vs fun its => P its (fun _ => True) σ₁)) : IterT fx X (.Call (.Name f p) (e :: rest) [] pos) σ P := by
  intro W s R
  rw [List.all_cons, Bool.and_eq_true] at hs
  refine Call_Name rfl (ok.glb f _ p hf hk σ W s _ _ R ?_ hd)
  refine PyProof.Rows.callWith_type1 (wpAny_mono (h W s pos R) ?_ fun _ _ x => x) (star_cons hs.1 _ _) (star_any hs.2 _ _)
  refine fun us s₁ zz => zz.elim fun W₁ σ₁ vs le₁ R₁ r₁ hP => ?_
  have fin : ∀ (a b : Int) (t u v : Tok) (tk : Nat) (n : Nat), Builtin.Range.rangeSize a b 1 = (n : Int) → Builtin.Range.small a b 1 = true → P (rngItems a n) (fun _ => True) σ₁ →
      wpAny fx.M fx.A (pyIter (.ref s₁.heap.objs.size)) (fun it s₂ => ∃ Io st ps W' σ' its need, it = .ref Io ∧ W.le W' ∧ Src fx W' its need Io st ∧ st 0 ps ∧ ExOk fx ps ∧ Rep (fx.pushL ps) σ' W' s₂ ∧ P its need σ') (PX fx W X)
        { s₁ with heap := s₁.heap.push { cls := .type "range", data := .fields #[.int a t, .int b u, .int 1 v] }, toks := tk } := by
    intro a b t u v tk n hn hsm hP
    have R₂ := R₁.keep (h' := s₁.heap.push { cls := .type "range", data := .fields #[.int a t, .int b u, .int 1 v] }) tk fun b o e => Heap.get?_push_of_some _ e
    refine wpAny_pyIter_range (IsRange.new _ a b 1 t u v) hsm ?_
    obtain ⟨R', ok'⟩ := R₂.exPush [((s₁.heap.push { cls := .type "range", data := .fields #[.int a t, .int b u, .int 1 v] }).objs.size, ({ cls := .type "range_iterator", data := .fields #[rawInt a, rawInt (Builtin.Range.rangeSize a b 1), rawInt 1] } : Obj))] (by simp) tk
      (fun b o e => Heap.get?_push_of_some _ e) (fun p hp => by rw [List.mem_singleton.mp hp]; exact Nat.le_refl _) (fun p hp => by rw [List.mem_singleton.mp hp]; exact Heap.get?_push_size _ rfl) (R₂.locals_at ok)
    exact ⟨_, _, _, W₁, σ₁, _, _, rfl, le₁, src_range (ok.ok.handled hq), by simp only [rngItSt, hn]; simp, ok', R', hP⟩
  rcases hP with ⟨m, rfl, hok, hP⟩ | ⟨m, m', rfl, hok, hP⟩
  · cases r₁ with
    | cons r r' =>
      cases r'; cases r
      refine call_range_1 (fin 0 m _ _ _ _ _ ?_ (small_one (by decide) (by decide) hok.1 hok.2) hP)
      rw [rangeSize_one]; split <;> omega
  · cases r₁ with
    | cons r r' =>
      cases r' with
      | cons r₂ r' =>
        cases r'; cases r; cases r₂
        refine call_range_2 (fin m m' _ _ _ _ _ ?_ (small_one hok.1.1 hok.1.2 hok.2.1 hok.2.2) hP)
        rw [rangeSize_one]; split <;> omega

theorem iter_val {iter : Expr} {P : List V → (St → Prop) → St → Prop} (h : EvE fx X iter σ (fun v σ₁ => SrvT fx v σ₁ P)) : IterT fx X iter σ P := by
  intro W s R
  refine wpAny_mono (h W s R) ?_ fun _ _ x => x
  refine fun u s₁ zz => zz.elim fun W₁ σ₁ v le₁ R₁ r₁ h₁ => ?_
  refine wpAny_mono (h₁ W₁ s₁ u (PX fx W X) R₁ r₁) ?_ fun _ _ x => x
  rintro it s₂ ⟨Io, st, ps, W', σ', its, need, a, b, c⟩
  exact ⟨Io, st, ps, W', σ', its, need, a, le₁.trans b, c⟩
end
end Mine

set_option autoImplicit false
namespace Mine
open PySem PySem.W PySem.Calls PySem.Spec PyProof.Rows

def retV : Fl → V
  | .ret v => v
  | _ => .none
def flowV : Flow → Value
  | .ret v => v
  | _ => .none
theorem retV_ok {W : Wd} {fl : Fl} {f : Flow} (h : FlR W fl f) : VR W (retV fl) (flowV f) := by
  cases h <;> first | exact .none | assumption

def bindV : List Str → List V → (Str → Option V) → Str → Option V
  | x :: xs, v :: vs, l => bindV xs vs (setN l x v)
  | _, _, l => l

/-- a call, as code -/
def RB (fx : Fx) (W : Wd) (X : XP) (Q : V → St → Prop) : Result → Shared → Prop := fun r s' => match r with | .ok (.ret v) => PV fx W Q v s' | .ok _ => False | .error e => PX fx W X e s'
def CallD (fx : Fx) (X : XP) (f : Value) (vs : List V) (σ : St) (Q : V → St → Prop) : Prop :=
  ∀ W s us, Rep fx σ W s → VRs W vs us → codeAny fx.M fx.A (.call f ⟨us, []⟩) (RB fx W X Q) s
/-- a def of the text, called -/
def CallOK (pg : Pg) (lev : Nat) (qt : Bool) (ns : List Int) (f : Addr) (vs : List V) (hp : List O) (X : Value → List O → Prop) (Q : V → List O → Prop) : Prop :=
  ∀ fx : Fx, FxAll fx → fx.pg = pg → lev ≤ fx.lev → fx.ns = ns → (qt = true → fx.qt = true) → ∀ loc, CallD fx (fun cls σ' => σ'.loc = loc ∧ X cls σ'.hp) (.ref f) vs ⟨loc, hp⟩ (fun v σ' => σ'.loc = loc ∧ Q v σ'.hp)

/-- where a def lies, and what it is -/
structure FnAt (pg : Pg) (f : Addr) (xs : List Str) (body : List Stmt) (scope : Scope) : Prop where
  data : ∃ name qual params dV kV doc pm an cdv ct oc od osl, pg.K.lookup f = some ⟨oc, od, .func (fnOf name qual params body scope dV kV doc pm an cdv ct), osl⟩ ∧ codeIn pg.K cdv qual = true ∧
    (∀ us : List Value, us.length = xs.length → bindArgs (fnOf name qual params body scope dV kV doc pm an cdv ct) ⟨us, []⟩ = pure (xs.zip us))
  kinds : ∀ x ∈ xs, scope.names.lookup x = some .local ∨ scope.names.lookup x = some .cell
  cells : ((cellsFrom 0 scope.names []).map (·.1)).Nodup
  hco : scope.isCoroutine = false
  hgen : scope.isGenerator = false
  hk : scope.kind = .function

theorem cf_some {x : Str} : ∀ (names : List (Str × NameKind)) (n : Nat) (acc : List (Str × Addr)), names.lookup x = some .cell ∨ (acc.lookup x).isSome = true → ((cellsFrom n names acc).lookup x).isSome = true
  | [], _, _, h => h.elim (fun e => by cases e) id
  | (y, k) :: r, n, acc, h => by
    unfold cellsFrom
    by_cases hk : (k == .cell) = true
    · rw [if_pos hk]
      refine cf_some r (n + 1) ((y, n) :: acc) ?_
      by_cases hy : (x == y) = true
      · exact .inr (by rw [List.lookup_cons, hy]; rfl)
      · refine h.imp (fun e => ?_) fun e => ?_
        · rw [List.lookup_cons] at e; simpa only [hy] using e
        · rw [List.lookup_cons]; simpa only [hy] using e
    · rw [if_neg hk]
      refine cf_some r n acc ?_
      by_cases hy : (x == y) = true
      · refine .inr (h.elim (fun e => ?_) id)
        rw [List.lookup_cons, hy] at e
        exact absurd (by rw [Option.some.inj e]; rfl) hk
      · refine h.imp (fun e => ?_) id
        rw [List.lookup_cons] at e; simpa only [hy] using e

theorem cf_addr : ∀ (names : List (Str × NameKind)) (n lo : Nat) (acc : List (Str × Addr)), lo ≤ n → (acc.map (·.2)).Nodup → (∀ p ∈ acc, lo ≤ p.2 ∧ p.2 < n) →
    ((cellsFrom n names acc).map (·.2)).Nodup ∧ ∀ p ∈ cellsFrom n names acc, lo ≤ p.2
  | [], _, _, _, _, h, h' => ⟨h, fun p hp => (h' p hp).1⟩
  | (y, k) :: r, n, lo, acc, hl, h, h' => by
    unfold cellsFrom
    split
    · refine cf_addr r (n + 1) lo ((y, n) :: acc) (Nat.le_succ_of_le hl) ?_ fun p hp => ?_
      · rw [List.map_cons, List.nodup_cons]
        refine ⟨fun hm => ?_, h⟩
        obtain ⟨p, hp, e⟩ := List.mem_map.mp hm
        have := (h' p hp).2
        exact absurd this (by rw [show p.2 = n from e]; exact Nat.lt_irrefl _)
      · rcases List.mem_cons.mp hp with rfl | hp
        · exact ⟨hl, Nat.lt_succ_self _⟩
        · exact ⟨(h' p hp).1, Nat.lt_succ_of_lt (h' p hp).2⟩
    · exact cf_addr r n lo acc hl h h'

theorem lookup_mem {α β : Type} [BEq α] [LawfulBEq α] : ∀ {l : List (α × β)} {x : α} {y : β}, l.lookup x = some y → (x, y) ∈ l
  | (a, b) :: r, x, y, h => by
    rw [List.lookup_cons] at h
    split at h
    · rename_i e
      cases h
      rw [eq_of_beq e]
      exact .head _
    · exact .tail _ (lookup_mem h)

theorem snd_inj {α β : Type} : ∀ {l : List (α × β)}, (l.map (·.2)).Nodup → ∀ {x y : α} {c : β}, (x, c) ∈ l → (y, c) ∈ l → x = y
  | [], _, _, _, _, h, _ => by cases h
  | (a, b) :: r, nd, x, y, c, h, h' => by
    rw [List.map_cons, List.nodup_cons] at nd
    rcases List.mem_cons.mp h with e | h
    · rcases List.mem_cons.mp h' with e' | h'
      · rw [← e'] at e; cases e; rfl
      · cases e; exact absurd (List.mem_map.mpr ⟨_, h', rfl⟩) nd.1
    · rcases List.mem_cons.mp h' with e' | h'
      · cases e'; exact absurd (List.mem_map.mpr ⟨_, h, rfl⟩) nd.1
      · exact snd_inj nd.2 h h'

theorem cellsAre_keys {cm : Str → Option Value} : ∀ {cs : List (Str × Addr)} {cells : List (Addr × Obj)}, CellsAre cm cs cells → cells.map (·.1) = cs.map (·.2)
  | _, _, .nil => rfl
  | _, _, .cons _ r => by simp [cellsAre_keys r]
theorem cellsAre_at {cm : Str → Option Value} : ∀ {cs : List (Str × Addr)} {cells : List (Addr × Obj)}, CellsAre cm cs cells → ∀ {x : Str} {c : Addr}, (x, c) ∈ cs → ∃ o, (c, o) ∈ cells ∧ o.data = .cell (cm x)
  | _, _, .nil => fun h => by cases h
  | _, _, .cons hd r => fun h => by
    rcases List.mem_cons.mp h with e | h
    · cases e; exact ⟨_, .head _, hd⟩
    · obtain ⟨o, h1, h2⟩ := cellsAre_at r h
      exact ⟨o, .tail _ h1, h2⟩

theorem bind_rel {W : Wd} {kindOf : Str → Option NameKind} : ∀ {xs : List Str} {vs : List V} {us : List Value}, VRs W vs us → (∀ x ∈ xs, kindOf x = some .local ∨ kindOf x = some .cell) → ∀ (l : Str → Option V) (m cm : Str → Option Value),
    (∀ y v, l y = some v → ∃ u, VR W v u ∧ ((kindOf y = some .local ∧ m y = some u) ∨ (kindOf y = some .cell ∧ cm y = some u))) →
    ∀ y v, bindV xs vs l y = some v → ∃ u, VR W v u ∧ ((kindOf y = some .local ∧ bindL kindOf (xs.zip us) m y = some u) ∨ (kindOf y = some .cell ∧ bindC kindOf (xs.zip us) cm y = some u))
  | [], _, _, _, _, l, m, cm, h, y, v, e => by
    rw [show bindV [] _ l = l by unfold bindV; rfl] at e
    simpa [bindL, bindC] using h y v e
  | x :: xs, _, _, .nil, _, l, m, cm, h, y, v, e => by
    rw [show bindV (x :: xs) [] l = l by unfold bindV; rfl] at e
    simpa [bindL, bindC] using h y v e
  | x :: xs, _, _, .cons (v := v₀) (vs := vs) (x := u₀) (xs := us) r rs, hk, l, m, cm, h, y, v, e => by
    rw [show bindV (x :: xs) (v₀ :: vs) l = bindV xs vs (setN l x v₀) by rfl] at e
    rw [List.zip_cons_cons]
    simp only [bindL, bindC]
    refine bind_rel rs (fun z hz => hk z (.tail _ hz)) (setN l x v₀) _ _ (fun z w hw => ?_) y v e
    unfold setN at hw
    split at hw
    · rename_i q
      subst q
      cases hw
      refine ⟨u₀, r, ?_⟩
      rcases hk z (.head _) with q | q
      · exact .inl ⟨q, by simp [q]⟩
      · exact .inr ⟨q, by simp [q]⟩
    · rename_i q
      obtain ⟨u, h1, h2⟩ := h z w hw
      refine ⟨u, h1, ?_⟩
      rcases h2 with ⟨a, b⟩ | ⟨a, b⟩
      · refine .inl ⟨a, ?_⟩
        split
        · simp [q, b]
        · exact b
      · refine .inr ⟨a, ?_⟩
        split
        · exact b
        · simp [q, b]

/-- a def is entered -/
theorem enterX {prog : Program} {w : World} {A₀ A : Around} {s : Shared} {base h₀ : Heap} {outer : List Env} {L : Addr} {m : Str → Option Value} {env : Env} {news : List (Addr × Obj)}
    {R : Result → Shared → Prop} {name qual : Str} {params : Arguments} {body : List Stmt} {scope : Scope} {dV kV doc pm cdv ct : Value} {an : Option Addr} {fo : Obj} {f : Addr} {args : Args} {binds : List (Str × Value)}
    (B : Below A₀ base outer h₀) (F : Fr h₀ L s.heap m) (N : News h₀ L s.heap news) (hlim : s.heap.NoLimit) (hA : A.frames = some (env :: outer)) (hf : env.frame = some L) (hke : env.scope.kind = .function)
    (ho : s.heap.get? f = some fo) (hd : fo.data = .func (fnX name qual params body scope [] dV kV doc pm an cdv ct)) (hcd : s.heap.CodeRec cdv qual) (hroom : A.depth < recursionLimit)
    (hbind : BindsTo s (fnX name qual params body scope [] dV kV doc pm an cdv ct) args binds)
    (hkind : ∀ n, ∀ x ∈ binds, scope.names.lookup x.1 = some .local ∨ (scope.names.lookup x.1 = some .cell ∧ ((cellsFrom n scope.names []).lookup x.1).isSome = true))
    (hnd : ((cellsFrom 0 scope.names []).map (·.1)).Nodup)
    (h : ∀ g L' h₁ tk cells, Fr h₀ L g m → Fr g L' h₁ (bindL (envOfC qual scope L' f cdv).kindOf binds fun _ => none) → News g L' h₁ (cells ++ news) →
      CellsAre (bindC (envOfC qual scope L' f cdv).kindOf binds fun _ => none) (cellsFrom (L' + 1) scope.names []) cells → Below A base (env :: outer) g → h₀.StaysIn g → (∀ p ∈ news, p.1 < L') →
      wpAny (model prog w) (A.deeper (envOfC qual scope L' f cdv)) (execs body (envOfC qual scope L' f cdv))
        (fun fl s' => R (.ok (.ret (match fl with | .ret v => v | _ => .none))) s')
        (fun e s' => wpAny (model prog w) (A.deeper (envOfC qual scope L' f cdv)) (leaving (envOfC qual scope L' f cdv) e) (fun _ s'' => R (.error e) s'') (fun e' s'' => R (.error e') s'') s')
        { s with heap := h₁, toks := tk })
    (hco : scope.isCoroutine = false) (hgen : scope.isGenerator = false) (hk : scope.kind = .function) : codeAny (model prog w) A (.call (.ref f) args) R s := by
  obtain ⟨FG, BG, st, _⟩ := groundX (R := R) B F N hA hf hke
  refine codeAny_call_function hroom ho hd hco hgen rfl hcd (hbind _ _ _ _ ?_)
  refine wpAny_newFunctionEnv_cells hk (hkind _) fun env' he s' x => ?_
  subst he
  refine ⟨hlim.keeps x.toInCall.keep, codeAny_func ?_⟩
  obtain ⟨h₁, tk, rfl, _⟩ := x.done
  have hk₁ := x.toInCall.keep
  obtain ⟨cells, NC, Y⟩ := Cl.news (h₀ := s.heap) (Nat.le_refl _) fun n c hm => ⟨x.cell n c (lookup_of_mem_nodup (cellsFrom_names scope.names 0 (s.heap.objs.size + 1) [] [] rfl ▸ hnd) hm), x.above n c hm⟩
  refine wpAny_mono (h _ s.heap.objs.size h₁ tk cells FG ⟨x.toInCall.ns, fun b o e => hk₁ b o (of_hideAll _ e), Nat.le_of_eq (hideAll_size _ _)⟩ (fun p hp => ?_) Y BG st (fun p hp => Heap.lt_size (N p hp).1)) (fun fl s' hl => hl) fun _ _ y => y
  rcases List.mem_append.mp hp with hp | hp
  · refine ⟨(NC p hp).1, (NC p hp).2.1, ?_⟩
    cases q : (hideAll s.heap (news.map (·.1))).get? p.1 with
    | none => rfl
    | some o => have := of_hideAll _ q; rw [(NC p hp).2.2] at this; cases this
  · exact ⟨hk₁ _ _ (N p hp).1, Nat.ne_of_lt (Heap.lt_size (N p hp).1), hideAll_none _ (List.mem_map_of_mem hp)⟩

/-- the caller's ground, behind a call -/
theorem backG {outer : List Env} {env : Env} {L L' : Addr} {gc g g' h' h : Heap} {m m' : Str → Option Value} {news' : List (Addr × Obj)} (hf : env.frame = some L) (F : Fr gc L h m) (D : KtsDicts (outer.filterMap (·.frame)) gc) (FG : Fr gc L g m)
    (T : KtsTurn ((env :: outer).filterMap (·.frame)) g g') (F' : Fr g' L' h' m') (N' : News g' L' h' news') :
    ∃ g₁, KtsTurn (outer.filterMap (·.frame)) gc g₁ ∧ Fr g₁ L h' m ∧ News g₁ L h' news' := by
  have nL : gc.get? L = none := ground_self F.above
  obtain ⟨oL, es, ep, hLg, hLd, hLk, hLf⟩ := FG.ns
  obtain ⟨sl, hs⟩ := T.up hLg
  obtain ⟨T₁, S₁⟩ := kts_turn_at (h := h') (fs := outer.filterMap (·.frame)) (g := gc) (fun b hb => let ⟨o, _, _, h1, _⟩ := D b hb; ⟨o, h1⟩)
    (fun b o e nm => F'.keep b o (T.other b o (FG.keep b o e) (fun q => by
      rcases mem_frames hf q with z | z
      · rw [z, nL] at e; cases e
      · exact nm z)))
    (fun b o e _ => by
      obtain ⟨sl', hs'⟩ := T.up (FG.keep b o e)
      exact ⟨sl', F'.keep _ _ hs'⟩)
  refine ⟨_, T₁, ⟨⟨_, es, ep, F'.keep _ _ hs, hLd, hLk, hLf⟩, S₁, by rw [T₁.size]; exact F.above⟩, fun p hp => ⟨(N' p hp).1, fun q => ?_, T₁.none_ _ ?_⟩⟩
  · have := (N' p hp).2.2; rw [q, hs] at this; cases this
  · cases q : gc.get? p.1 with
    | none => rfl
    | some o =>
      obtain ⟨sl', hs'⟩ := T.up (FG.keep _ _ q)
      have := (N' p hp).2.2
      rw [hs'] at this
      cases this

theorem callOK_of {pg : Pg} {f : Addr} {xs : List Str} {body : List Stmt} {scope : Scope} (D : FnAt pg f xs body scope) {lev : Nat} {qt : Bool} {ns : List Int} {vs : List V} {hp : List O} {X : Value → List O → Prop} {Q : V → List O → Prop} (hl : vs.length = xs.length)
    (h : ∀ fx' : Fx, FxAll fx' → fx'.pg = pg → fx'.ns = ns → fx'.lev = lev → (qt = true → fx'.qt = true) → fx'.env.scope = scope → fx'.env.locals = fx'.L → EvSs fx' (fun cls σ' => X cls σ'.hp) body ⟨bindV xs vs (fun _ => none), hp⟩ (fun fl σ' => Q (retV fl) σ'.hp)) :
    CallOK pg (lev + 1) qt ns f vs hp X Q := by
  rintro fx all rfl hlev hns hqt loc W s us R r
  have stB := all.stays R
  refine R.elim fun er gc m news G F N C => ?_
  obtain ⟨BL, DC⟩ := all.ground G
  obtain ⟨name, qual, params, dV, kV, doc, pm, an, cdv, ct, oc, od, osl, ho, hcd, hbind⟩ := D.data
  have X' := all.part.keeps stB
  have hlen : us.length = xs.length := r.length ▸ hl
  refine enterX (news := news) (name := name) (qual := qual) (params := params) (body := body) (scope := scope) BL F N (all.top.nolimit.keeps stB) all.frs all.ffr all.fkd (X' _ _ ho) rfl (codeRec_of X' hcd) (by have := all.depth; omega)
    (BindsTo.of_eq (hbind us hlen)) ?_ D.cells ?_ D.hco D.hgen D.hk
  · intro n x hx
    have hx' : x.1 ∈ xs := (List.of_mem_zip (a := x.1) (b := x.2) hx).1
    rcases D.kinds x.1 hx' with q | q
    · exact .inl q
    · exact .inr ⟨q, cf_some _ _ _ (.inl q)⟩
  intro g L' h₁ tk cells FG F' N' Y B' st lt
  have keysC := cellsAre_keys Y
  have cfa := cf_addr scope.names (L' + 1) (L' + 1) [] (Nat.le_refl _) (by simp) (fun p hp => by cases hp)
  let cf : Addr × Obj → Bool := fun p => fx.env.cells.any fun q => decide (fx.env.cells.lookup q.1 = some p.1)
  let fx' : Fx := { pg := fx.pg, A := fx.A.deeper (envOfC qual scope L' f cdv), env := envOfC qual scope L' f cdv, fenv := envOfC qual scope L' f cdv, outer := fx.fenv :: fx.outer, A₀ := fx.A, base := fx.base, h₀ := g, L := L',
                    ex := fx.ex ++ news.filter cf, s₀ := fx.s₀, sc := fx.sc, ns := fx.ns, lev := lev, mfix := none, qt := fx.qt }
  have exN : ∀ p ∈ fx'.ex, p ∈ news := fun p hp => (List.mem_append.mp hp).elim (C.exs p) fun q => (List.mem_filter.mp q).1
  have cellIn : ∀ x c o, fx.env.cells.lookup x = some c → (c, o) ∈ news → (c, o) ∈ fx'.ex := fun x c o h1 h2 =>
    List.mem_append_right _ (List.mem_filter.mpr ⟨h2, List.any_eq_true.mpr ⟨_, lookup_mem h1, decide_eq_true h1⟩⟩)
  have exAl : ∀ p ∈ fx'.ex, p.1 ∉ W.al := fun p hp => (List.mem_append.mp hp).elim (C.exd p) fun q => by
    obtain ⟨e, _, e1⟩ := List.any_eq_true.mp (List.mem_filter.mp q).2
    exact (C.cel _ _ (of_decide_eq_true e1)).1
  have exTp : ∀ p ∈ fx'.ex, ∀ t ∈ W.tp, p.1 ≠ t.1 := fun p hp t ht => (List.mem_append.mp hp).elim (fun q => C.ext p q t ht) fun q z => by
    obtain ⟨e, _, e1⟩ := List.any_eq_true.mp (List.mem_filter.mp q).2
    obtain ⟨_, o, v, h2, h3⟩ := C.cel _ _ (of_decide_eq_true e1)
    have h4 := C.tps t ht
    rw [← z] at h4
    rw [key_inj C.nd h2 h4] at h3
    cases h3
  have cellAt : ∀ x c, (cellsFrom (L' + 1) scope.names []).lookup x = some c → ∃ o, (c, o) ∈ cells ∧ o.data = .cell (bindC (envOfC qual scope L' f cdv).kindOf (xs.zip us) (fun _ => none) x) := fun x c h => cellsAre_at Y (lookup_mem h)
  have newC : ∀ p ∈ cells, ∀ q ∈ news, q.1 < p.1 := fun p hp q hq => by
    have h1 : p.1 ∈ (cellsFrom (L' + 1) scope.names []).map (·.2) := keysC ▸ List.mem_map_of_mem (f := (·.1)) hp
    obtain ⟨e, he, e1⟩ := List.mem_map.mp h1
    have h2 := cfa.2 e he
    have h3 := lt q hq
    rw [← e1]
    exact Nat.lt_of_lt_of_le h3 (Nat.le_of_succ_le h2)
  have all' : FxAll fx' := {
    ok := ⟨D.hk, all.ok.handled⟩
    locs := .inl rfl
    cex := fun _ x c h p hp q => by
      obtain ⟨o, ho, _⟩ := cellAt x c h
      exact absurd (newC _ ho p (exN p hp)) (by rw [q]; exact Nat.lt_irrefl _)
    cinj := fun x y c h h' => snd_inj cfa.1 (lookup_mem h) (lookup_mem h')
    cdef := fun x h q => by
      have := cf_some (x := x) scope.names (L' + 1) [] (.inl h)
      rw [show (cellsFrom (L' + 1) scope.names []).lookup x = none from q] at this
      cases this
    scr := all.scr
    egl := rfl
    ebu := rfl
    top := all.top
    part := all.part
    below := B'
    dicts := fun b hb => by
      rcases mem_frames all.ffr hb with rfl | z
      · obtain ⟨oL, es, ep, hL, hd, _⟩ := FG.ns
        exact ⟨oL, es, ep, hL, hd⟩
      · obtain ⟨o, es, n, h1, h2⟩ := DC b z
        exact ⟨o, es, n, FG.keep _ _ h1, h2⟩
    frs := by show (fx.A.frames.map _) = _; rw [all.frs]; rfl
    ffr := rfl
    fkd := D.hk
    depth := by show fx.A.depth + 1 + lev < recursionLimit; have := all.depth; omega
    room := by show fx.A.units + 3 + 8 * lev + 100 < cLine; have := all.room; omega
    mfn := fun _ => rfl
    envf := fun _ => rfl }
  have R' : Rep fx' ⟨bindV xs vs (fun _ => none), hp⟩ W { s with heap := h₁, toks := tk } := by
    refine ⟨rest_with er _ _, _, _, cells ++ news, .refl, F', N', ?_, fun p hp => List.mem_append_right _ (exN p hp), exAl, C.aln, C.len, fun i o h => ?_, fun t ht => List.mem_append_right _ (C.tps t ht), fun x v h => ?_, fun x c h => ?_, C.scc, fun _ q => (by cases q), fun p hp t ht => ?_⟩
    · rw [List.map_append, keysC]
      refine List.nodup_append.mpr ⟨cfa.1, C.nd, fun a ha b hb q => ?_⟩
      rw [← keysC] at ha
      obtain ⟨p, hp, rfl⟩ := List.mem_map.mp ha
      obtain ⟨p', hp', rfl⟩ := List.mem_map.mp hb
      exact absurd (newC p hp p' hp') (by rw [q]; exact Nat.lt_irrefl _)
    · obtain ⟨a, ob, h1, h2, h3⟩ := C.obs i o h
      exact ⟨a, ob, h1, List.mem_append_right _ h2, h3⟩
    · obtain ⟨u, h1, h2⟩ := bind_rel (kindOf := (envOfC qual scope L' f cdv).kindOf) r D.kinds (fun _ => none) (fun _ => none) (fun _ => none) (fun y v h => by cases h) x v h
      refine ⟨u, h1, ?_⟩
      rcases h2 with ⟨k1, k2⟩ | ⟨k1, k2⟩
      · exact .loc k1 rfl k2
      · have hs := cf_some (x := x) scope.names (L' + 1) [] (.inl k1)
        obtain ⟨c, hc⟩ := Option.isSome_iff_exists.mp hs
        obtain ⟨o, ho, hd⟩ := cellAt x c hc
        exact .cell (.inl k1) hc (List.mem_append_left _ ho) (by rw [hd, k2])
    · obtain ⟨o, ho, hd⟩ := cellAt x c h
      refine ⟨fun hm => ?_, o, _, List.mem_append_left _ ho, hd⟩
      obtain ⟨o', ho'⟩ := C.al_lt hm
      exact absurd (newC _ ho _ ho') (Nat.lt_irrefl _)
    · exact exTp p hp t ht
  have coreBack : ∀ {σ' : St} {W' : Wd} {m' : Str → Option Value} {news' : List (Addr × Obj)}, W.le W' → Core fx' σ' W' m' news' → Core fx ⟨loc, σ'.hp⟩ W' m news' := by
    intro σ' W' m' news' le' C''
    refine ⟨C''.nd, fun p hp => C''.exs p (List.mem_append_left _ hp), fun p hp => C''.exd p (List.mem_append_left _ hp), C''.aln, C''.len, C''.obs, C''.tps, fun x v h => ?_, fun x c h => ?_, C''.scc, fun m₀ q => C.mfx m₀ q, fun p hp t ht => C''.ext p (List.mem_append_left _ hp) t ht⟩
    · obtain ⟨u, h1, h2⟩ := C.loc x v h
      refine ⟨u, h1.mono le', ?_⟩
      cases h2 with
      | loc a b c => exact .loc a b c
      | comp a b c => exact .comp a b c
      | cell a b c d => exact .cell a b (C''.exs _ (cellIn _ _ _ b c)) d
    · obtain ⟨_, o, v, h2, h3⟩ := C.cel x c h
      have hin := cellIn x c o h h2
      exact ⟨C''.exd _ hin, o, v, C''.exs _ hin, h3⟩
  refine wpAny_mono (h fx' all' rfl hns rfl hqt rfl rfl W _ R') ?_ ?_
  · refine fun fl s' zz => zz.elim fun W' σ' fl' le' R'' r'' q'' => ?_
    refine R''.elim fun er' g' m' news' G' F'' N'' C'' => ?_
    obtain ⟨g₁, T₁, F₁, N₁⟩ := backG all.ffr F DC FG G' F'' N''
    have hv := retV_ok r''
    exact ⟨W', ⟨loc, σ'.hp⟩, retV fl', le', ⟨er', g₁, m, news', G.trans T₁, F₁, N₁, coreBack le' C''⟩, (by cases fl <;> exact hv), rfl, q''⟩
  · rintro u s' ⟨e, cls, k, W', σ', rfl, le', ⟨er', g', m', news', B, c, f⟩, hX⟩
    refine leaveFly (L₁ := fx.L) all'.frs rfl f fun h'' f'' u'' => ?_
    have c' := c.up rfl f''.stays.1 u''
    obtain ⟨oL, es, ep, hLg, hLd, hLk, hLf⟩ := FG.ns
    obtain ⟨sl, hs⟩ := c.turn.up hLg
    obtain ⟨sl', hs'⟩ := c'.fr _ _ hs
    refine ⟨e, cls, .fly, W', ⟨loc, σ'.hp⟩, rfl, le', ⟨rest_heap er' _, gc, m, news', B, ⟨G, DC, F.above, ⟨_, es, ep, hs', hLd, hLk, hLf⟩, fun b o q nm => ?_, fun b o q => ?_, fun p hp => ⟨(c.nw p hp).1, fun q => ?_, ?_⟩, coreBack le' c.core, c.base⟩, f''⟩, rfl, hX⟩
    · have q' := c.turn.other b o (FG.keep b o q) nm
      refine c.gB b o q' fun hm => ?_
      rcases mem_frames (show fx'.fenv.frame = some L' from rfl) hm with z | z
      · rw [z, ground_self c.size] at q'
        cases q'
      · exact nm z
    · obtain ⟨s1, q1⟩ := c.turn.up (FG.keep b o q)
      obtain ⟨s2, q2⟩ := c'.fr _ _ q1
      exact ⟨s2, q2⟩
    · have := (c.nw p hp).2.2
      rw [q, hs] at this
      cases this
    · cases q : gc.get? p.1 with
      | none => rfl
      | some o =>
        obtain ⟨s1, q1⟩ := c.turn.up (FG.keep _ _ q)
        have := (c.nw p hp).2.2
        rw [q1] at this
        cases this

end Mine

set_option autoImplicit false
namespace Mine
open PySem PySem.W PySem.Calls PySem.Spec PyProof.Rows

theorem pushL_pushL (fx : Fx) (qs ps : List (Addr × Obj)) : (fx.pushL qs).pushL ps = fx.pushL (ps ++ qs) := by
  simp only [Fx.pushL, List.append_assoc]
theorem ExOk.join {fx : Fx} {qs ps : List (Addr × Obj)} (a : ExOk fx qs) (b : ExOk (fx.pushL qs) ps) : ExOk fx (ps ++ qs) where
  nd := by
    rw [List.map_append]
    refine List.nodup_append.mpr ⟨b.nd, a.nd, fun x hx y hy e => ?_⟩
    obtain ⟨p, hp, rfl⟩ := List.mem_map.mp hy
    exact b.dis p (List.mem_append_left _ hp) (e ▸ hx)
  dis := fun p hp q => by
    rw [List.map_append] at q
    exact (List.mem_append.mp q).elim (b.dis p (List.mem_append_right _ hp)) (a.dis p hp)
  cel := fun x c h q => by
    rw [List.map_append] at q
    exact (List.mem_append.mp q).elim (b.cel x c h) (a.cel x c h)
  loc := fun q => by
    rw [List.map_append] at q
    exact (List.mem_append.mp q).elim b.loc a.loc
theorem ExOk.keys {fx : Fx} {ps ps' : List (Addr × Obj)} (a : ExOk fx ps) (h : ps'.map (·.1) = ps.map (·.1)) : ExOk fx ps' := ⟨h ▸ a.nd, h ▸ a.dis, h ▸ a.cel, h ▸ a.loc⟩
theorem ExOk.left {fx : Fx} {qs qs' ps : List (Addr × Obj)} (h : qs'.map (·.1) = qs.map (·.1)) (b : ExOk (fx.pushL qs) ps) : ExOk (fx.pushL qs') ps where
  nd := b.nd
  dis := fun p hp q => by
    rcases List.mem_append.mp hp with hp | hp
    · have : p.1 ∈ qs.map (·.1) := h ▸ List.mem_map_of_mem (f := (·.1)) hp
      obtain ⟨o, ho⟩ := mem_keys this
      exact b.dis _ (List.mem_append_left _ ho) q
    · exact b.dis p (List.mem_append_right _ hp) q
  cel := b.cel
  loc := b.loc

def NsObj (o : Obj) : Prop := ∃ es ep, o.data = .dict es ep ∧ StrKeys es
/-- the names that a comprehension has bound -/
def CLR (W : Wd) (l : Str → Option V) (o : Obj) : Prop := ∀ y v, l y = some v → ∃ u, VR W v u ∧ NsSays o y u
/-- a comprehension's scope within its frame -/
structure CompOk (env : Env) (scope : Scope) : Prop where
  kind : scope.kind = .function
  nocell : ∀ y ∈ scope.names, y.2 ≠ .cell
  names : ∀ y ∈ scope.names, y.2 = .local → scope.names.lookup y.1 = some .local
  frees : ∀ y ∈ scope.names, y.2 = .free → scope.names.lookup y.1 = some .free
  free : ∀ n, scope.names.lookup n = some .free → env.kindOf n = some .cell

def clOf (env : Env) : List (Str × NameKind) → List (Str × Addr) → List (Str × Addr)
  | [], acc => acc
  | (n, k) :: r, acc => if k == .free then clOf env r ((n, (env.cells.lookup n).getD 0) :: acc) else clOf env r acc

theorem clOf_prop {env : Env} : ∀ (names : List (Str × NameKind)) (acc : List (Str × Addr)), (∀ n, (n, NameKind.free) ∈ names → env.cells.lookup n ≠ none) → (∀ p ∈ acc, env.cells.lookup p.1 = some p.2) →
    ∀ p ∈ clOf env names acc, env.cells.lookup p.1 = some p.2
  | [], _, _, h => h
  | (n, k) :: r, acc, hn, h => by
    unfold clOf
    split
    · rename_i hk
      have hk' : k = .free := by simpa using hk
      subst hk'
      refine clOf_prop r _ (fun m hm => hn m (.tail _ hm)) fun p hp => ?_
      rcases List.mem_cons.mp hp with rfl | hp
      · have := hn n (.head _)
        cases q : env.cells.lookup n with
        | none => exact absurd q this
        | some c => simp
      · exact h p hp
    · exact clOf_prop r acc (fun m hm => hn m (.tail _ hm)) h

theorem clOf_some {env : Env} {x : Str} : ∀ (names : List (Str × NameKind)) (acc : List (Str × Addr)), (x, NameKind.free) ∈ names ∨ (acc.lookup x).isSome = true → ((clOf env names acc).lookup x).isSome = true
  | [], _, h => h.elim (fun e => by cases e) id
  | (n, k) :: r, acc, h => by
    unfold clOf
    split
    · rename_i hk
      refine clOf_some r _ ?_
      by_cases hy : (x == n) = true
      · exact .inr (by rw [List.lookup_cons, hy]; rfl)
      · refine h.imp (fun e => ?_) fun e => ?_
        · rcases List.mem_cons.mp e with e | e
          · cases e; simp at hy
          · exact e
        · rw [List.lookup_cons]; simpa only [hy] using e
    · rename_i hk
      refine clOf_some r acc (h.imp (fun e => ?_) id)
      rcases List.mem_cons.mp e with e | e
      · cases e; exact absurd rfl hk
      · exact e

theorem closure_ok {env : Env} {scope : Scope} (h : ∀ n, (n, NameKind.free) ∈ scope.names → env.cells.lookup n ≠ none) : closureFor scope env = pure (clOf env scope.names []) := by
  unfold closureFor
  have key : ∀ (names : List (Str × NameKind)) (acc : List (Str × Addr)), (∀ n, (n, NameKind.free) ∈ names → env.cells.lookup n ≠ none) →
      (forIn names acc fun (x : Str × NameKind) (r : List (Str × Addr)) => if (x.2 == NameKind.free) = true then (do let c ← cellOf env x.1; pure (ForInStep.yield ((x.1, c) :: r)) : Sem (ForInStep (List (Str × Addr)))) else pure (ForInStep.yield r)) = (pure (clOf env names acc) : Sem _) := by
    intro names
    induction names with
    | nil => intro acc _; rfl
    | cons p r ih =>
      obtain ⟨n, k⟩ := p
      intro acc hn
      rw [List.forIn_cons]
      unfold clOf
      by_cases hk : (k == NameKind.free) = true
      · have hk' : k = .free := by simpa using hk
        subst hk'
        have hc := hn n (.head _)
        cases q : env.cells.lookup n with
        | none => exact absurd q hc
        | some c =>
          have e1 : cellOf env n = pure c := by unfold cellOf; rw [q]
          simp only [e1, if_true, pure_bind, beq_self_eq_true, Option.getD_some]
          exact ih _ fun m hm => hn m (.tail _ hm)
      · simp only [hk, if_false, pure_bind, Bool.false_eq_true]
        exact ih _ fun m hm => hn m (.tail _ hm)
  have := key scope.names [] h
  simpa using this

def compLoc (scope : Scope) (loc : Str → Option V) : Str → Option V := fun y => if scope.names.lookup y = some .free then loc y else none

theorem relabel_lookup (scope : Scope) (env : Env) (y : Str) : (relabel scope env).names.lookup y = (scope.names.lookup y).map fun k => if (k == .free && env.scope.kind == .function && env.kindOf y == some .cell) then .cell else k := by
  unfold relabel
  dsimp only
  induction scope.names with
  | nil => rfl
  | cons p r ih =>
    obtain ⟨n, k⟩ := p
    simp only [List.map_cons]
    by_cases hy : (y == n) = true
    · have : y = n := by simpa using hy
      subst this
      by_cases hc : (k == NameKind.free && env.scope.kind == .function && env.kindOf y == some .cell) = true
      · rw [if_pos hc]; simp only [List.lookup_cons, beq_self_eq_true, Option.map_some, hc, if_true]
      · rw [if_neg hc]; simp only [List.lookup_cons, beq_self_eq_true, Option.map_some, hc]; simp
    · have hy' : (y == n) = false := by simpa using hy
      by_cases hc : (k == NameKind.free && env.scope.kind == .function && env.kindOf n == some .cell) = true
      · rw [if_pos hc]; simp only [List.lookup_cons, hy']; exact ih
      · rw [if_neg hc]; simp only [List.lookup_cons, hy']; exact ih

section
variable {fx : Fx} {X : XP} {σ : St} {W : Wd} {s : Shared}

/-- a comprehension's own frame -/
abbrev fxC (fx : Fx) (scope : Scope) (C : Addr) (ex : List (Addr × Obj)) (m : Str → Option Value) : Fx :=
  { fx with env := compEnvC scope (clOf fx.env scope.names []) C fx.env, ex := ex, mfix := some m }

theorem cells_in {env : Env} {scope : Scope} (h : ∀ n, (n, NameKind.free) ∈ scope.names → env.cells.lookup n ≠ none) {x : Str} {c : Addr} (e : (clOf env scope.names []).lookup x = some c) : env.cells.lookup x = some c :=
  clOf_prop scope.names [] h (fun p hp => by cases hp) _ (lookup_mem e)

theorem fxC_all (all : FxAll fx) {scope : Scope} (co : CompOk fx.env scope) {C : Addr} {ex : List (Addr × Obj)} {m : Str → Option Value} {oC : Obj} (hin : (C, oC) ∈ ex) (hCL : C ≠ fx.L) : FxAll (fxC fx scope C ex m) := by
  have hfree : ∀ n, (n, NameKind.free) ∈ scope.names → fx.env.cells.lookup n ≠ none := fun n hn => all.cdef n (co.free n (co.frees _ hn rfl))
  exact {
    ok := ⟨co.kind, all.ok.handled⟩
    locs := .inr ⟨oC, hin⟩
    cex := fun q => absurd q hCL
    cinj := fun x y c h h' => all.cinj x y c (cells_in hfree h) (cells_in hfree h')
    cdef := fun x h q => by
      have h' : (relabel scope fx.env).names.lookup x = some .cell := h
      rw [relabel_lookup] at h'
      cases e : scope.names.lookup x with
      | none => rw [e] at h'; cases h'
      | some k =>
        rw [e, Option.map_some] at h'
        have hm := lookup_mem e
        have hs := clOf_some (env := fx.env) (x := x) scope.names [] (.inl (by
          split at h'
          · rename_i hc
            have : k = .free := by simp at hc; exact hc.1.1
            rw [← this]; exact hm
          · exact absurd (Option.some.inj h') (co.nocell _ hm)))
        rw [show (clOf fx.env scope.names []).lookup x = none from q] at hs
        cases hs
    scr := all.scr
    egl := all.egl
    ebu := all.ebu
    top := all.top
    part := all.part
    below := all.below
    dicts := all.dicts
    frs := all.frs
    ffr := all.ffr
    fkd := all.fkd
    depth := all.depth
    room := all.room
    mfn := fun q => absurd q hCL
    envf := fun q => absurd q hCL }

/-- into a comprehension's frame and back -/
theorem toC (all : FxAll fx) {scope : Scope} (co : CompOk fx.env scope) {C : Addr} {oC : Obj} {qs : List (Addr × Obj)} (hin : (C, oC) ∈ qs) (R : Rep (fx.pushL qs) σ W s) {l : Str → Option V} (hl : CLR W l oC)
    (hloc : ∀ y v, l y = some v → scope.names.lookup y = some .local) {l' : Str → Option V} (hl' : ∀ y v, l' y = some v → l y = some v ∨ compLoc scope σ.loc y = some v) :
    ∃ fc : Fx, FxAll fc ∧ fc.pg = fx.pg ∧ fc.ns = fx.ns ∧ fc.lev = fx.lev ∧ fc.env = compEnvC scope (clOf fx.env scope.names []) C fx.env ∧ fc.A = fx.A ∧ fc.qt = fx.qt ∧ Rep fc ⟨l', σ.hp⟩ W s ∧
      (∀ σ' W' s', W.le W' → Rep fc σ' W' s' → Rep (fx.pushL qs) ⟨σ.loc, σ'.hp⟩ W' s') := by
  have hfree : ∀ n, (n, NameKind.free) ∈ scope.names → fx.env.cells.lookup n ≠ none := fun n hn => all.cdef n (co.free n (co.frees _ hn rfl))
  refine R.elim fun e g m news G F N Co => ?_
  have hCL : C ≠ fx.L := (N _ (Co.exs _ (List.mem_append_left _ hin))).2.1
  let cf : Addr × Obj → Bool := fun p => fx.env.cells.any fun q => decide (fx.env.cells.lookup q.1 = some p.1)
  have cellIn : ∀ x c o, fx.env.cells.lookup x = some c → (c, o) ∈ news → (c, o) ∈ news.filter cf := fun x c o h1 h2 =>
    List.mem_filter.mpr ⟨h2, List.any_eq_true.mpr ⟨_, lookup_mem h1, decide_eq_true h1⟩⟩
  refine ⟨fxC fx scope C (qs ++ fx.ex ++ news.filter cf) m, fxC_all all co (oC := oC) (List.mem_append_left _ (List.mem_append_left _ hin)) hCL, rfl, rfl, rfl, rfl, rfl, rfl, ?_, ?_⟩
  · refine ⟨e, g, m, news, G, F, N, Co.nd, fun p hp => ?_, fun p hp => ?_, Co.aln, Co.len, Co.obs, Co.tps, fun x v h => ?_, fun x c h => ?_, Co.scc, fun m₀ q => Option.some.inj q, fun p hp t ht => ?_⟩
    · exact (List.mem_append.mp hp).elim (Co.exs p) fun q => (List.mem_filter.mp q).1
    · refine (List.mem_append.mp hp).elim (Co.exd p) fun q => ?_
      obtain ⟨e, _, e1⟩ := List.any_eq_true.mp (List.mem_filter.mp q).2
      exact (Co.cel _ _ (of_decide_eq_true e1)).1
    · rcases hl' x v h with h | h
      · obtain ⟨u, h1, h2⟩ := hl x v h
        exact ⟨u, h1, .comp (lookup_relabel_local (hloc x v h)) (List.mem_append_left _ (List.mem_append_left _ hin)) h2⟩
      · unfold compLoc at h
        split at h
        · rename_i hf
          obtain ⟨u, h1, h2⟩ := Co.loc x v h
          refine ⟨u, h1, ?_⟩
          have hc := co.free x hf
          cases h2 with
          | loc a b c => rw [show fx.env.kindOf x = some .local from a] at hc; cases hc
          | comp a b c => rw [show fx.env.kindOf x = some .local from a] at hc; cases hc
          | @cell c o a b d f =>
            have hs := clOf_some (env := fx.env) (x := x) scope.names [] (.inl (lookup_mem hf))
            obtain ⟨c', hc'⟩ := Option.isSome_iff_exists.mp hs
            have := cells_in hfree hc'
            rw [show fx.env.cells.lookup x = some c from b] at this
            cases this
            refine .cell (.inl ?_) hc' d f
            show (relabel scope fx.env).names.lookup x = some .cell
            rw [relabel_lookup, hf]
            simp [all.ok.kind, hc]
        · cases h
    · exact Co.cel x c (cells_in hfree h)
    · refine (List.mem_append.mp hp).elim (fun q => Co.ext p q t ht) fun q z => ?_
      obtain ⟨e, _, e1⟩ := List.any_eq_true.mp (List.mem_filter.mp q).2
      obtain ⟨_, o, v, h2, h3⟩ := Co.cel _ _ (of_decide_eq_true e1)
      have h4 := Co.tps t ht
      rw [← z] at h4
      rw [key_inj Co.nd h2 h4] at h3
      cases h3
  · intro σ' W' s' le R'
    refine R'.elim fun e' g' m' news' G' F' N' Co' => ?_
    obtain rfl : m' = m := Co'.mfx m rfl
    refine ⟨e', g', m', news', G', F', N', Co'.nd, fun p hp => Co'.exs p (List.mem_append_left _ hp), fun p hp => Co'.exd p (List.mem_append_left _ hp), Co'.aln, Co'.len, Co'.obs, Co'.tps, fun x v h => ?_, fun x c h => ?_, Co'.scc, Co.mfx, fun p hp t ht => Co'.ext p (List.mem_append_left _ hp) t ht⟩
    · obtain ⟨u, h1, h2⟩ := Co.loc x v h
      refine ⟨u, h1.mono le, ?_⟩
      cases h2 with
      | loc a b c => exact .loc a b c
      | comp a b c => exact .comp a b c
      | cell a b c d => exact .cell a b (Co'.exs _ (List.mem_append_right _ (cellIn _ _ _ b c))) d
    · obtain ⟨_, o, v, h2, h3⟩ := Co.cel x c h
      have hin' : (c, o) ∈ qs ++ fx.ex ++ news.filter cf := List.mem_append_right _ (cellIn x c o h h2)
      exact ⟨Co'.exd _ hin', o, v, Co'.exs _ hin', h3⟩

/-- a comprehension's variable is stored -/
theorem storeC {scope : Scope} (hkd : scope.kind = .function) {C : Addr} {cl : List (Str × Addr)} {oC : Obj} {ps : List (Addr × Obj)} (hps : ∀ p ∈ ps, ∀ xs, p.2 ≠ tupObj xs) (ok : ExOk fx (ps ++ [(C, oC)])) (R : Rep (fx.pushL (ps ++ [(C, oC)])) σ W s) (ho : NsObj oC)
    {l : Str → Option V} (hl : CLR W l oC) {x : Str} (hx : scope.names.lookup x = some .local) {v : V} {u : Value} (r : VR W v u) {Q : Unit → Shared → Prop} {E : Value → Shared → Prop}
    (k : ∀ oC' h' tk, NsObj oC' → CLR W (setN l x v) oC' → Rep (fx.pushL (ps ++ [(C, oC')])) σ W { s with heap := h', toks := tk } → Q () { s with heap := h', toks := tk }) :
    wpAny fx.M fx.A (storeName (compEnvC scope cl C fx.env) x u) Q E s := by
  obtain ⟨es, ep, hd, hk⟩ := ho
  have hg := R.exPop (p := (C, oC)) (List.mem_append_right _ (List.mem_singleton.mpr rfl))
  refine wpAny_storeName_local (m := nsFind es) (lookup_relabel_local hx) ⟨oC, es, ep, hg, hd, hk, fun _ => rfl⟩ (fun h' hn hs => ?_) (by show (scope.kind == .class || (scope.kind == .module && _)) = false; rw [hkd]; rfl)
  obtain ⟨o', es', ep', hg', hd', hk', hf'⟩ := hn
  refine k o' h' (s.toks + 1) ⟨es', ep', hd', hk'⟩ (fun y w h => ?_) ?_
  · unfold setN at h
    split at h
    · rename_i q
      subst q
      cases h
      exact ⟨u, r, es', ep', hd', hk', by rw [hf']; simp⟩
    · rename_i q
      obtain ⟨u', h1, es₂, ep₂, h2, h3, h4⟩ := hl y w h
      rw [hd] at h2
      cases h2
      exact ⟨u', h1, es', ep', hd', hk', by rw [hf']; simp [q, h4]⟩
  · refine R.exSwap ok (ps ++ [(C, o')]) (by simp) _ (fun b o hb e => (hs.2 b fun q => hb ?_).trans e) fun p hp => ?_
    · rw [q]
      exact List.mem_map.mpr ⟨(C, oC), List.mem_append_right _ (List.mem_singleton.mpr rfl), rfl⟩
    · rcases List.mem_append.mp hp with hp | hp
      · have := R.exPop (p := p) (List.mem_append_left _ hp)
        refine (hs.2 p.1 fun q => ?_).trans this
        have nd := ok.nd
        rw [List.map_append] at nd
        exact (List.nodup_append.mp nd).2.2 p.1 (List.mem_map_of_mem (f := (·.1)) hp) C (by simp) q
      · rw [List.mem_singleton.mp hp]; exact hg'

def nmV (p : Expr × V) : Option (Str × V) := match p.1 with | .Name x _ => some (x, p.2) | _ => none
/-- the targets that a comprehension binds: a name, or a tuple of names -/
def tgtV (t : Expr) (v : V) : Option (List (Str × V)) :=
  match t with
  | .Name x _ => some [(x, v)]
  | .Tuple es _ _ => match v with
    | .tup vs => if es.length = vs.length then (es.zip vs).mapM nmV
      else none
    | _ => none
  | _ => none

def setAll (l : Str → Option V) : List (Str × V) → Str → Option V
  | [] => l
  | (x, v) :: r => setAll (setN l x v) r

theorem asgInOrderC {scope : Scope} (hkd : scope.kind = .function) {C : Addr} {cl : List (Str × Addr)} {ps : List (Addr × Obj)} (hps : ∀ p ∈ ps, ∀ xs, p.2 ≠ tupObj xs) :
    ∀ (es : List Expr) (vs : List V) (bs : List (Str × V)), es.length = vs.length → ((es.zip vs).mapM nmV) = some bs → (∀ b ∈ bs, scope.names.lookup b.1 = some .local) →
    ∀ (us : List Value) (oC : Obj) (W : Wd) (s : Shared) (l : Str → Option V) (Q : Unit → Shared → Prop) (E : Value → Shared → Prop), VRs W vs us → ExOk fx (ps ++ [(C, oC)]) → Rep (fx.pushL (ps ++ [(C, oC)])) σ W s → NsObj oC → CLR W l oC →
    (∀ oC' h' tk, NsObj oC' → CLR W (setAll l bs) oC' → Rep (fx.pushL (ps ++ [(C, oC')])) σ W { s with heap := h', toks := tk } → Q () { s with heap := h', toks := tk }) →
    wpAny fx.M fx.A (assignInOrder ((assignEach es (compEnvC scope cl C fx.env)).map (·.2)) us) Q E s
  | [], vs, bs, hlen, hb, hn, us, oC, W, s, l, Q, E, r, ok, R, ho, hl, k => by
    simp at hb
    subst hb
    exact assignInOrder_nil (k oC s.heap s.toks ho hl R)
  | e :: es, [], bs, hlen, hb, hn, us, oC, W, s, l, Q, E, r, ok, R, ho, hl, k => by simp at hlen
  | e :: es, v :: vs, bs, hlen, hb, hn, us, oC, W, s, l, Q, E, r, ok, R, ho, hl, k => by
    cases r with
    | @cons _ _ u us r rs =>
      rw [List.zip_cons_cons, List.mapM_cons] at hb
      cases e with
      | Name x p =>
        simp only [nmV, bind_pure_comp, Option.bind_eq_bind, Option.bind_some] at hb
        cases hr : ((es.zip vs).mapM nmV) with
        | none => rw [hr] at hb; simp [nmV] at hb
        | some bs' =>
          rw [hr] at hb
          simp at hb
          subst hb
          refine assignInOrder_cons ?_
          refine wpAny_bind (wpAny_standAt (wpAny_bindName (storeC hkd hps ok R ho hl (hn _ (.head _)) r fun oC' h' tk ho' hl' R' => ?_)))
          exact asgInOrderC hkd hps es vs bs' (by simpa using hlen) hr (fun b hb => hn b (.tail _ hb)) us oC' W _ _ Q E rs (ok.keys (by simp)) R' ho' hl' fun oC'' h'' tk'' a b c => k oC'' h'' tk'' a b c
      | _ => simp [nmV] at hb

theorem asgC (all : FxAll fx) (hq : fx.qt = true) {scope : Scope} (hkd : scope.kind = .function) {C : Addr} {cl : List (Str × Addr)} {oC : Obj} {ps : List (Addr × Obj)} (hps : ∀ p ∈ ps, ∀ xs, p.2 ≠ tupObj xs) (ok : ExOk fx (ps ++ [(C, oC)])) (R : Rep (fx.pushL (ps ++ [(C, oC)])) σ W s) (ho : NsObj oC)
    {t : Expr} {v : V} {u : Value} {bs : List (Str × V)} (ht : tgtV t v = some bs) (hn : ∀ b ∈ bs, scope.names.lookup b.1 = some .local) (r : VR W v u) {Q : Unit → Shared → Prop} {E : Value → Shared → Prop}
    (k : ∀ oC' h' tk, NsObj oC' → CLR W (setAll (fun _ => none) bs) oC' → Rep (fx.pushL (ps ++ [(C, oC')])) σ W { s with heap := h', toks := tk } → Q () { s with heap := h', toks := tk }) :
    wpAny fx.M fx.A (assign t (compEnvC scope cl C fx.env) u) Q E s := by
  unfold tgtV at ht
  split at ht
  · cases ht
    exact wpAny_bind (wpAny_standAt (wpAny_bindName (storeC hkd hps ok R ho (l := fun _ => none) (fun _ _ h => by cases h) (hn _ (.head _)) r k)))
  · rename_i es n p
    split at ht
    · rename_i vs
      split at ht
      · rename_i hlen
        obtain ⟨a, xs, rfl, h2, h3⟩ := R.tup_at r
        have hall : ∀ (es : List Expr) (vs : List V) (bs : List (Str × V)), es.length = vs.length → ((es.zip vs).mapM nmV) = some bs → ∀ env, (assignEach es env).length = es.length ∧ (assignEach es env).findIdx? (·.1) = none := by
          intro es
          induction es with
          | nil => intro vs bs _ _ env; exact ⟨rfl, rfl⟩
          | cons e es ih =>
            intro vs bs hl hb env
            cases vs with
            | nil => simp at hl
            | cons v vs =>
              rw [List.zip_cons_cons, List.mapM_cons] at hb
              cases e with
              | Name x p =>
                cases hr : ((es.zip vs).mapM nmV) with
                | none => rw [hr] at hb; simp [nmV] at hb
                | some bs' =>
                  obtain ⟨i1, i2⟩ := ih vs bs' (by simpa using hl) hr env
                  have e1 : assignEach (Expr.Name x p :: es) env = (false, assign (.Name x p) env) :: assignEach es env := rfl
                  rw [e1]
                  refine ⟨by simp [i1], ?_⟩
                  rw [List.findIdx?_cons, i2]
                  rfl
              | _ => simp [nmV] at hb
        obtain ⟨q1, q2⟩ := hall es vs bs hlen ht (compEnvC scope cl C fx.env)
        refine assign_Tuple_tuple (all.ok.handled hq) (tupObj_isTup h2) (by rw [q1, hlen, h3.length]; simp) q2 fun h' he => ?_
        have R' := R.keep (h' := h') s.toks fun b o e => he b o (Nat.ne_of_lt (Heap.lt_size e)) e
        exact asgInOrderC hkd hps es vs bs hlen ht hn _ oC W _ (fun _ => none) Q E (by simpa using h3) ok R' ho (fun _ _ h => by cases h) fun oC' h'' tk a b c => k oC' h'' tk a b c
      · cases ht
    · cases ht
  · cases ht

def EvTs (fx : Fx) (X : XP) (ifs : List Expr) (σ : St) (Q : Bool → St → Prop) : Prop := ∀ W s, Rep fx σ W s → wpAny fx.M fx.A (forIn ifs true fun c r => if r = true then do let ok ← isTrue c fx.env (eval c fx.env); pure (ForInStep.yield ok) else pure (ForInStep.yield r)) (PB fx W Q) (PX fx W X) s
theorem evTs_nil {Q : Bool → St → Prop} (h : Q true σ) : EvTs fx X [] σ Q := fun _ _ R => wpAny_tests_nil (.here R h)
theorem compLoop_any {prog : Program} {w : World} {A : Around} {R : Result → Shared → Prop} {s : Shared} {elt target iter : Expr} {ifs : List Expr} {scope : Scope} {pos : Pos} {it acc : Value} {env : Env} (I : Nat → Shared → Prop)
    (turn : ∀ n s, I n s → wpAny (model prog w) A (pyNext it) (fun r s₁ => match r with
      | none => R (.ok .next) s₁
      | some v => wpAny (model prog w) A (letOwnedTupleGo target it v) (fun _ s₁' => wpAny (model prog w) A (assign target env v) (fun _ s₂ =>
          wpAny (model prog w) A (forIn ifs true fun c r => if r = true then do let ok ← isTrue c env (eval c env); pure (ForInStep.yield ok) else pure (ForInStep.yield r)) (fun ok s₃ =>
            if ok = true then wpAny (model prog w) A (eval elt env) (fun x s₄ =>
              wpAny (model prog w) A (call (.builtin "list.append") [acc, x]) (fun _ s₅ => ∃ m, m < n ∧ I m s₅) (notedBy (model prog w) A env fun e s' => R (.error e) s') s₄) (notedBy (model prog w) A env fun e s' => R (.error e) s') s₃
            else ∃ m, m < n ∧ I m s₃) (notedBy (model prog w) A env fun e s' => R (.error e) s') s₂) (notedBy (model prog w) A env fun e s' => R (.error e) s') s₁') (notedBy (model prog w) A env fun e s' => R (.error e) s') s₁) (notedBy (model prog w) A env fun e s' => R (.error e) s') s)
    (n : Nat) (h : I n s) :
    codeAny (model prog w) A (.compLoop (.ListComp elt [⟨target, iter, ifs, 0⟩] scope pos) 0 it acc env) R s := by
  refine codeAny_loop rfl I (fun n s hI => ?_) n h
  show wpAny _ A ((compTurn (.ListComp elt [⟨target, iter, ifs, 0⟩] scope pos) 0 it acc env).onRaise (fun x => do noteFrame x env; theTreesLotGoes x)) _ _ s
  refine wpAny_noted ?_
  rw [compTurn_list]
  refine wpAny_bind (wpAny_standAt (wpAny_bind (wpAny_mono (turn n s hI) (fun r s₁ h₁ => ?_) fun _ _ h' => h')))
  cases r with
  | none => exact wpAny_pure h₁
  | some v =>
    refine wpAny_bind (wpAny_mono h₁ (fun _ s₁' h₁' => ?_) fun _ _ h' => h')
    refine wpAny_bind (wpAny_mono h₁' (fun _ s₂ h₂ => wpAny_bind (wpAny_mono h₂ (fun ok s₃ h₃ => ?_) fun _ _ h' => h')) fun _ _ h' => h')
    cases ok with
    | false => exact wpAny_pure ⟨rfl, h₃⟩
    | true =>
      exact wpAny_bind (wpAny_bind (wpAny_mono h₃ (fun x s₄ h₄ => wpAny_bind (wpAny_mono h₄ (fun _ s₅ h₅ => wpAny_pure (wpAny_pure ⟨rfl, h₅⟩)) fun _ _ h' => h')) fun _ _ h' => h'))

/-- what a comprehension's turns do -/
def CompJ (fx : Fx) (elt t : Expr) (ifs : List Expr) (scope : Scope) (its : List V) (need : St → Prop) (σ₁ : St) (J : Nat → List O → Prop) : Prop :=
  J 0 (σ₁.hp ++ [.list []]) ∧ (∀ k hp, J k hp → need ⟨σ₁.loc, hp⟩) ∧ its.length ≤ sizeLine ∧
  ∀ (k : Nat) hp (hk : k < its.length), J k hp → ∃ bs, tgtV t its[k] = some bs ∧ (∀ b ∈ bs, scope.names.lookup b.1 = some .local) ∧
    ∀ fc : Fx, FxAll fc → fc.pg = fx.pg → fc.ns = fx.ns → fc.lev = fx.lev → fc.qt = fx.qt → fc.env.scope = relabel scope fx.env →
      EvTs fc X0 ifs ⟨setAll (compLoc scope σ₁.loc) bs, hp⟩ (fun b σ₂ => if b then EvE fc X0 elt σ₂ (fun v σ₃ => ∃ acc, σ₃.hp[σ₁.hp.length]? = some (.list acc) ∧ acc.length ≤ k ∧ J (k + 1) (σ₃.hp.set σ₁.hp.length (.list (acc ++ [v])))) else J (k + 1) σ₂.hp)

theorem setAll_or (a : Str → Option V) : ∀ (bs : List (Str × V)) (b : Str → Option V), setAll (fun y => (b y).or (a y)) bs = fun y => (setAll b bs y).or (a y)
  | [], _ => rfl
  | (x, w) :: r, b => by
    have e : setN (fun y => (b y).or (a y)) x w = fun y => ((setN b x w) y).or (a y) := by
      funext y
      unfold setN
      split <;> simp
    show setAll (setN (fun y => (b y).or (a y)) x w) r = _
    rw [e]
    exact setAll_or a r (setN b x w)
theorem setAll_split {a : Str → Option V} {bs : List (Str × V)} {y : Str} {v : V} (h : setAll a bs y = some v) : setAll (fun _ => none) bs y = some v ∨ a y = some v := by
  have e := congrFun (setAll_or a bs fun _ => none) y
  simp only [Option.none_or] at e
  rw [e] at h
  cases q : setAll (fun _ => none) bs y with
  | none => rw [q, Option.none_or] at h; exact .inr h
  | some w => rw [q] at h; simp at h; subst h; exact .inl rfl
theorem setAll_mem : ∀ {bs : List (Str × V)} {l : Str → Option V} {y : Str} {v : V}, setAll l bs y = some v → (∃ b ∈ bs, b.1 = y) ∨ l y = some v
  | [], _, _, _, h => .inr h
  | (x, w) :: r, l, y, v, h => by
    rcases setAll_mem (bs := r) h with ⟨b, hb, e⟩ | q
    · exact .inl ⟨b, .tail _ hb, e⟩
    · unfold setN at q
      split at q
      · rename_i e
        exact .inl ⟨_, .head _, e.symm⟩
      · exact .inr q

theorem comp_core (all : FxAll fx) (hq : fx.qt = true) {elt t iter : Expr} {ifs : List Expr} {scope : Scope} {pos pos' : Pos} {use : Option (Value → Sem Unit)} (co : CompOk fx.env scope) (hs : ∀ x, foldedSetIterable iter fx.env x = pure x) {Qr : Value → Shared → Prop}
    {P : List V → (St → Prop) → St → Prop} (hI : IterT fx X iter σ P) (R : Rep fx σ W s)
    (body : ∀ its need σ₁, P its need σ₁ → ∃ J, CompJ fx elt t ifs scope its need σ₁ J ∧
      ∀ C oC D hp W' s', ExOk fx [(C, oC)] → NsObj oC → W.le W' → Rep (fx.pushL [(C, oC)]) ⟨σ₁.loc, hp⟩ W' s' → W'.al[σ₁.hp.length]? = some D → J its.length hp → compPost fx.M fx.A (PX fx W X) use Qr (.ref D) C (.ok .next) s') :
    wpAny fx.M fx.A (comprehension (.ListComp elt [⟨t, iter, ifs, 0⟩] scope pos) scope fx.env pos' (newList []) false (eval iter fx.env) use) Qr (PX fx W X) s := by
  have hfree : ∀ n, (n, NameKind.free) ∈ scope.names → fx.env.cells.lookup n ≠ none := fun n hn => all.cdef n (co.free n (co.frees _ hn rfl))
  refine wpAny_comprehension_free (g := ⟨t, iter, ifs, 0⟩) (gs := []) rfl hs (closure_ok hfree) co.kind co.names (wpAny_mono (hI W s R) (fun xv s₁ h₁ => wpAny_mono h₁ (fun it s₂ h₂ => ?_) fun _ _ e => e) fun _ _ e => e)
  obtain ⟨Io, st, ps, W₁, σ₁, its, need, rfl, le₁, S, hst, hex, R₁, hP⟩ := h₂
  obtain ⟨J, ⟨h0, hneed, hsz, turn⟩, fin⟩ := body its need σ₁ hP
  -- the list
  obtain ⟨W₂, le₂, hal₂, R₂⟩ := R₁.alloc (o := .list []) (ob := listObj [] 0) s₂.toks rfl fun W' _ => .list 0 .nil
  refine wpAny_newObj_type ?_ (by size_fits)
  have hn₁ : W₁.al.length = σ₁.hp.length := by obtain ⟨_, _, _, _, _, _, _, c⟩ := R₁; exact c.len
  have hD : W₂.al[σ₁.hp.length]? = some s₂.heap.objs.size := by rw [hal₂, ← hn₁]; simp
  -- the names
  refine wpAny_newFunctionEnv co.nocell (by intro y hy; simp at hy) (fun h₃ hns₃ hsb₃ => ?_) co.kind
  dsimp only at hns₃ hsb₃ ⊢
  generalize hH : s₂.heap.push { cls := .type "list", dict := none, data := .seq ([] : List Value).toArray } = H2 at hns₃ hsb₃ R₂ ⊢
  obtain ⟨oC, es, ep, hgC, hdC, hkC, hfC⟩ := hns₃
  have old : ∀ b o, H2.get? b = some o → h₃.get? b = some o := fun b o e => hsb₃.extBut b o (Nat.ne_of_lt (Heap.lt_size e)) (Heap.get?_push_of_some _ e)
  obtain ⟨R₃, ok₃⟩ := Rep.exPush (s := { s₂ with heap := H2, toks := s₂.toks }) R₂ [(H2.objs.size, oC)] (by simp) s₂.toks old (fun p hp => by rw [List.mem_singleton.mp hp]; exact Nat.le_refl _)
    (fun p hp => by rw [List.mem_singleton.mp hp]; exact hgC) (R₂.locals_at (all.pushL hex))
  -- the frame's own things in the order that the loop wants
  have okC : ExOk fx [(H2.objs.size, oC)] := ⟨by simp, fun p hp => ok₃.dis p (List.mem_append_right _ hp), ok₃.cel, ok₃.loc⟩
  have okP : ExOk (fx.pushL [(H2.objs.size, oC)]) ps := ⟨hex.nd, fun p hp q => by
    rcases List.mem_append.mp hp with hp | hp
    · rw [List.mem_singleton.mp hp] at q
      obtain ⟨o, ho⟩ := mem_keys q
      exact ok₃.dis _ (List.mem_append_left _ ho) (by simp)
    · exact hex.dis p hp q, hex.cel, hex.loc⟩
  have perm : ∀ {σ' W' s'} {a b : List (Addr × Obj)}, Rep ((fx.pushL a).pushL b) σ' W' s' → Rep ((fx.pushL b).pushL a) σ' W' s' := by
    intro σ' W' s' a b R'
    refine R'.elim fun e g m news G F N c => ?_
    have hmem : ∀ p, p ∈ a ++ (b ++ fx.ex) → p ∈ b ++ (a ++ fx.ex) := fun p hp => by
      simp only [List.mem_append] at hp ⊢
      rcases hp with h | h | h <;> simp [h]
    have hmem' : ∀ p, p ∈ b ++ (a ++ fx.ex) → p ∈ a ++ (b ++ fx.ex) := fun p hp => by
      simp only [List.mem_append] at hp ⊢
      rcases hp with h | h | h <;> simp [h]
    refine ⟨e, g, m, news, G, F, N, c.nd, fun p hp => c.exs p (hmem p hp), fun p hp => c.exd p (hmem p hp), c.aln, c.len, c.obs, c.tps, fun x v h => ?_, c.cel, c.scc, c.mfx, fun p hp t ht => c.ext p (hmem p hp) t ht⟩
    obtain ⟨u, h1, h2⟩ := c.loc x v h
    refine ⟨u, h1, ?_⟩
    cases h2 with
    | loc a b c => exact .loc a b c
    | comp a b c => exact .comp a (hmem' _ b) c
    | cell a b c d => exact .cell a b c d
  have R₄ := perm R₃
  have loop : ∀ s₃ : Shared, s₃ = { s₂ with heap := h₃, toks := s₂.toks } →
      codeAny fx.M fx.A (.compLoop (.ListComp elt [⟨t, iter, ifs, 0⟩] scope pos) 0 (.ref Io) (.ref s₂.heap.objs.size) (compEnvC scope (clOf fx.env scope.names []) H2.objs.size fx.env))
        (compPost fx.M fx.A (PX fx W X) use Qr (.ref s₂.heap.objs.size) H2.objs.size) s₃ := by
    rintro s₃ rfl
    refine compLoop_any (fun n s' => ∃ k ps' oC' W' hp, n = its.length - k ∧ k ≤ its.length ∧ W₂.le W' ∧ st k ps' ∧ ExOk fx [(H2.objs.size, oC')] ∧ ExOk (fx.pushL [(H2.objs.size, oC')]) ps' ∧ NsObj oC' ∧
      Rep ((fx.pushL [(H2.objs.size, oC')]).pushL ps') ⟨σ₁.loc, hp⟩ W' s' ∧ J k hp) ?_ its.length ⟨0, ps, oC, W₂, _, rfl, Nat.zero_le _, .refl _, hst, okC, okP, ⟨es, ep, hdC, hkC⟩, R₄, h0⟩
    rintro n s' ⟨k, ps', oC', W', hp, rfl, hk, le', hst', okC', okP', hoC', R', hJ⟩
    have LE' := le₁.trans (le₂.trans le')
    rcases Nat.lt_or_ge k its.length with hlt | hge
    · refine S.next [(H2.objs.size, oC')] k ps' _ W' s' hlt (le₂.trans le') hst' okP' R' (hneed k hp hJ) _ _ fun u ps'' W'' h'' tk'' hst'' hkey le'' r'' R'' => ?_
      refine S.own [(H2.objs.size, oC')] (k + 1) ps'' _ W'' _ t u hst'' R'' _ _ ?_
      have okP'' := okP'.keys hkey
      have okJ := okC'.join okP''
      rw [pushL_pushL] at R''
      obtain ⟨bs, htv, hloc, ht⟩ := turn k hp hlt hJ
      have hps'' := S.tup (k + 1) ps'' hst''
      refine asgC all hq co.kind hps'' okJ R'' hoC' htv hloc r'' fun oC₂ h₅ tk₅ ho₂ hl₂ R₅ => ?_
      have okC₂ : ExOk fx [(H2.objs.size, oC₂)] := okC'.keys rfl
      have okP₂ : ExOk (fx.pushL [(H2.objs.size, oC₂)]) ps'' := ExOk.left (qs := [(H2.objs.size, oC')]) rfl okP''
      obtain ⟨fc, allc, e1, e2, e3, e4, e5, e6, Rc, back⟩ := toC all co (List.mem_append_right _ (List.mem_singleton.mpr rfl)) R₅ hl₂ (fun y v h => by
        rcases setAll_mem h with ⟨b, hb, rfl⟩ | q
        · exact hloc b hb
        · cases q) (l' := setAll (compLoc scope σ₁.loc) bs) (fun y v h => setAll_split h)
      have hM : fc.M = fx.M := by show model fc.pg.prog fc.pg.w = model fx.pg.prog fx.pg.w; rw [e1]
      have h₆ := ht fc allc e1 e2 e3 e6 (by rw [e4]; rfl) W'' _ Rc
      rw [hM, e5, e4] at h₆
      refine wpAny_mono h₆ ?_ fun _ _ x => x.never.elim
      refine fun b s₆ zz => zz.elim fun W₆ σ₆ le₆ R₆ h₆' => ?_
      cases b with
      | true =>
        have h₇ := h₆' W₆ s₆ R₆
        rw [hM, e5, e4] at h₇
        simp only [if_true]
        refine wpAny_mono h₇ ?_ fun _ _ x => x.never.elim
        rintro y s₇ ⟨W₇, σ₇, v, le₇, R₇, r₇, acc, hacc, hlen, hJ₇⟩
        have R₈ := back σ₇ W₇ s₇ (le₆.trans le₇) R₇
        have leT : W₂.le W₇ := ((le'.trans le'').trans le₆).trans le₇
        have h₈ := append_ok (fx := fx.pushL (ps'' ++ [(H2.objs.size, oC₂)])) (X := X0) (σ := ⟨σ₁.loc, σ₇.hp⟩) (Q := fun r σ' => J (k + 1) σ'.hp ∧ σ'.loc = σ₁.loc) (v := v) hacc (by omega) ⟨hJ₇, rfl⟩ W₇ s₇ [.ref s₂.heap.objs.size, y] R₈
          (.cons (.ref (prefix_get leT.1 hD)) (.cons r₇ .nil))
        refine wpAny_mono h₈ ?_ fun _ _ x => x.never.elim
        rintro z s₉ ⟨W₉, σ₉, v₉, le₉, R₉, r₉, hJ₉, hl₉⟩
        obtain ⟨loc₉, hp₉⟩ := σ₉
        dsimp only at hl₉ hJ₉
        subst hl₉
        refine ⟨its.length - (k + 1), by omega, k + 1, ps'', oC₂, W₉, hp₉, rfl, hlt, leT.trans le₉, hst'', okC₂, okP₂, ho₂, ?_, hJ₉⟩
        rw [pushL_pushL]
        exact R₉
      | false =>
        have R₈ := back σ₆ W₆ s₆ le₆ R₆
        refine ⟨its.length - (k + 1), by omega, k + 1, ps'', oC₂, W₆, σ₆.hp, rfl, hlt, (le'.trans le'').trans le₆, hst'', okC₂, okP₂, ho₂, ?_, h₆'⟩
        rw [pushL_pushL]
        exact R₈
    · obtain rfl : k = its.length := Nat.le_antisymm hk hge
      refine S.done [(H2.objs.size, oC')] ps' _ W' s' (le₂.trans le') hst' okP' R' (hneed _ hp hJ) _ _ fun h'' tk'' R'' => ?_
      exact fin H2.objs.size oC' s₂.heap.objs.size hp W' _ okC' hoC' LE' R'' (prefix_get le'.1 hD) hJ
  exact codeAny_compStart_list (loop _ rfl) (S.self [(H2.objs.size, oC)] 0 ps _ W₂ _ hst R₄ _ _ (loop _ rfl))
end
end Mine

set_option autoImplicit false
namespace Mine
open PySem PySem.W PySem.Calls PySem.Spec PyProof.Rows

section
variable {fx : Fx} {X : XP} {σ : St} {W : Wd} {s : Shared}

theorem ns_at {h : Heap} {C : Addr} {oC : Obj} (hg : h.get? C = some oC) (ho : NsObj oC) : ∃ m, h.Ns C m := by
  obtain ⟨es, ep, hd, hk⟩ := ho
  exact ⟨nsFind es, oC, es, ep, hg, hd, hk, fun _ => rfl⟩

theorem evComp (all : FxAll fx) (hq : fx.qt = true) {elt t iter : Expr} {ifs : List Expr} {scope : Scope} {pos : Pos} {Q : V → St → Prop} (co : CompOk fx.env scope) (hs : ∀ x, foldedSetIterable iter fx.env x = pure x)
    (h : IterT fx X iter σ (fun its need σ₁ => ∃ J, CompJ fx elt t ifs scope its need σ₁ J ∧ ∀ hp, J its.length hp → Q (.ref σ₁.hp.length) ⟨σ₁.loc, hp⟩)) : EvE fx X (.ListComp elt [⟨t, iter, ifs, 0⟩] scope pos) σ Q := by
  intro W s R
  show wpAny fx.M fx.A (comprehension (.ListComp elt [⟨t, iter, ifs, 0⟩] scope pos) scope fx.env _ (newList []) false (eval iter fx.env) none) _ _ s
  refine comp_core all hq co hs h R fun its need σ₁ ⟨J, hJ, fin⟩ => ⟨J, hJ, fun C oC D hp W' s' okC ho le R' hD hJ' => ?_⟩
  obtain ⟨m, hm⟩ := ns_at (R'.exPop (List.mem_singleton.mpr rfl)) ho
  refine ⟨m, hm, fun h' hs' => ?_⟩
  have R'' := R'.exDrop okC s'.toks (h' := h') fun b o hb e => (hs'.2 b (by simpa using hb)).trans e
  exact ⟨W', _, .ref σ₁.hp.length, le, R'', .ref hD, fin hp hJ'⟩

theorem evAssignComp (all : FxAll fx) (hq : fx.qt = true) {elt t iter : Expr} {ifs : List Expr} {scope : Scope} {pos p spos : Pos} {y : Str} {Q : Fl → St → Prop} (hy : isVar fx y) (co : CompOk fx.env scope) (hs : ∀ x, foldedSetIterable iter fx.env x = pure x)
    (h : IterT fx X iter σ (fun its need σ₁ => ∃ J, CompJ fx elt t ifs scope its need σ₁ J ∧ ∀ hp, J its.length hp → Q .next ⟨setN σ₁.loc y (.ref σ₁.hp.length), hp⟩)) :
    EvS fx X (.Assign [.Name y p] (.ListComp elt [⟨t, iter, ifs, 0⟩] scope pos) spos) σ Q := by
  have hsw : ∃ b, swapsWith (.ListComp elt [⟨t, iter, ifs, 0⟩] scope pos) (some (.Name y p)) spos.line fx.env = pure b := ⟨_, rfl⟩
  obtain ⟨b, hb⟩ := hsw
  intro W s R
  cases b with
  | false =>
    refine wpAny_Assign_Name (wpAny_mono (evComp all hq co hs (Q := fun v σ' => Q .next (σ'.set y v)) (h.mono fun its need σ' ⟨J, a, b⟩ => ⟨J, a, fun hp q => b hp q⟩) W s R) ?_ fun _ _ x => x) hb
    refine fun u s₁ zz => zz.elim fun W₁ σ₁ v le₁ R₁ r₁ h₁ => ?_
    exact storeVar all hy R₁ r₁ fun _ _ R₂ => ⟨W₁, _, .next, le₁, R₂, .next, h₁⟩
  | true =>
    rw [exec_Assign_Name_used _ _ _ _ hb]
    refine wpAny_bind (wpAny_standAt (wpAny_bind ?_))
    show wpAny _ _ (do let _ ← comprehension (.ListComp elt [⟨t, iter, ifs, 0⟩] scope pos) scope fx.env _ (newList []) false (eval iter fx.env) (some (assign (.Name y p) fx.env))) _ _ s
    refine wpAny_bind (wpAny_mono (comp_core all hq co hs h R (use := some (assign (.Name y p) fx.env)) (Qr := fun _ s' => PF fx W Q .next s') fun its need σ₁ ⟨J, hJ, fin⟩ => ⟨J, hJ, fun C oC D hp W' s' okC ho le R' hD hJ' => ?_⟩)
      (fun _ s' hq' => wpAny_pure (wpAny_pure hq')) fun _ _ x => x)
    show wpAny fx.M fx.A (assign (.Name y p) fx.env (.ref D)) _ _ s'
    have hy' : isVar (fx.pushL [(C, oC)]) y := hy
    refine wpAny_mono (asgName (X := X0) (all.pushL okC) hy' (Q := fun σ' => σ' = (⟨setN σ₁.loc y (.ref σ₁.hp.length), hp⟩ : St)) (p := p) rfl W' s' (.ref D) R' (.ref hD)) ?_ fun _ _ x => x.never.elim
    rintro _ s₂ ⟨W₂, σ₂, le₂, R₂, rfl⟩
    obtain ⟨m, hm⟩ := ns_at (R₂.exPop (List.mem_singleton.mpr rfl)) ho
    refine ⟨m, hm, fun h' hs' => ?_⟩
    have R'' := R₂.exDrop okC s₂.toks (h' := h') fun b o hb e => (hs'.2 b (by simpa using hb)).trans e
    exact ⟨W₂, _, .next, le.trans le₂, R'', .next, fin hp hJ'⟩

theorem evCallF (all : FxAll fx) {f : Str} {p pos : Pos} {a : Addr} {e : Expr} {rest : List Expr} {Q : V → St → Prop} (hf : fx.pg.gl f = some (.ref a)) (hk : fx.env.kindOf f = some .globalImplicit) (hd : (f == ("__debug__" : Str)) = false) (hfn : fnIn fx.pg.K a = true) (hs : (e :: rest).all noStar = true)
    (h : EvEs fx X (e :: rest) σ (fun vs σ₁ => CallT fx X (.ref a) vs σ₁ Q)) : EvE fx X (.Call (.Name f p) (e :: rest) [] pos) σ Q := by
  intro W s R
  rw [List.all_cons, Bool.and_eq_true] at hs
  refine Call_Name rfl (all.glb f _ p hf hk σ W s _ _ R ?_ hd)
  unfold fnIn at hfn
  split at hfn
  · rename_i c d fd sl q
    refine callWith_def (o := ⟨c, d, .func fd, sl⟩) (fd := fd) rfl (wpAny_mono (h W s pos R) ?_ fun _ _ x => x) (star_cons hs.1 _ _)
    refine fun us s₁ zz => zz.elim fun W₁ σ₁ vs le₁ R₁ r₁ h₁ => ?_
    refine ⟨?_, wpAny_mono (h₁ W₁ s₁ us R₁ r₁) (fun _ _ x => x.mono le₁ fun _ _ y => y) fun _ _ x => x.mono le₁ fun _ _ y => y⟩
    exact all.stays R₁ _ _ (all.part _ _ q)
  · cases hfn

theorem callT_of (all : FxAll fx) {lev : Nat} {qt : Bool} {a : Addr} {vs : List V} {Q : V → St → Prop} (hl : lev ≤ fx.lev) (hq : qt = true → fx.qt = true) (h : CallOK fx.pg lev qt fx.ns a vs σ.hp (fun c hp' => X c ⟨σ.loc, hp'⟩) (fun v hp' => Q v ⟨σ.loc, hp'⟩)) : CallT fx X (.ref a) vs σ Q :=
  fun W s us R r => wpAny_mono (wpAny_call (h fx all rfl hl rfl hq σ.loc W s us R r)) (fun _ _ x => x.mono (.refl _) fun v σ' ⟨y, z⟩ => by obtain ⟨l, hp⟩ := σ'; dsimp only at y z; subst y; exact z)
    fun _ _ x => x.mono (.refl _) fun v σ' ⟨y, z⟩ => by obtain ⟨l, hp⟩ := σ'; dsimp only at y z; subst y; exact z

/-- targets of a frame's own -/
theorem asgInOrder (all : FxAll fx) : ∀ (es : List Expr) (vs : List V) (bs : List (Str × V)), es.length = vs.length → ((es.zip vs).mapM nmV) = some bs → (∀ b ∈ bs, isVar fx b.1) →
    ∀ (us : List Value) (σ : St) (W : Wd) (s : Shared) (Q : Unit → Shared → Prop) (E : Value → Shared → Prop), VRs W vs us → Rep fx σ W s →
    (∀ h' tk, Rep fx ⟨setAll σ.loc bs, σ.hp⟩ W { s with heap := h', toks := tk } → Q () { s with heap := h', toks := tk }) →
    wpAny fx.M fx.A (PySem.assignInOrder ((assignEach es fx.env).map (·.2)) us) Q E s
  | [], vs, bs, hlen, hb, hn, us, σ, W, s, Q, E, r, R, k => by
    simp at hb
    subst hb
    exact assignInOrder_nil (k s.heap s.toks R)
  | e :: es, [], bs, hlen, hb, hn, us, σ, W, s, Q, E, r, R, k => by simp at hlen
  | e :: es, v :: vs, bs, hlen, hb, hn, us, σ, W, s, Q, E, r, R, k => by
    cases r with
    | @cons _ _ u us r rs =>
      rw [List.zip_cons_cons, List.mapM_cons] at hb
      cases e with
      | Name x p =>
        simp only [nmV, bind_pure_comp, Option.bind_eq_bind, Option.bind_some] at hb
        cases hr : ((es.zip vs).mapM nmV) with
        | none => rw [hr] at hb; simp [nmV] at hb
        | some bs' =>
          rw [hr] at hb
          simp at hb
          subst hb
          refine assignInOrder_cons ?_
          refine wpAny_bind (wpAny_standAt (wpAny_bindName (storeVar all (hn _ (.head _)) R r fun h' tk R' => ?_)))
          exact asgInOrder all es vs bs' (by simpa using hlen) hr (fun b hb => hn b (.tail _ hb)) us _ W _ Q E rs R' fun h'' tk'' a => k h'' tk'' a
      | _ => simp [nmV] at hb

theorem tgt_each : ∀ (es : List Expr) (vs : List V) (bs : List (Str × V)), es.length = vs.length → ((es.zip vs).mapM nmV) = some bs → ∀ env, (assignEach es env).length = es.length ∧ (assignEach es env).findIdx? (·.1) = none := by
  intro es
  induction es with
  | nil => intro vs bs _ _ env; exact ⟨rfl, rfl⟩
  | cons e es ih =>
    intro vs bs hl hb env
    cases vs with
    | nil => simp at hl
    | cons v vs =>
      rw [List.zip_cons_cons, List.mapM_cons] at hb
      cases e with
      | Name x p =>
        cases hr : ((es.zip vs).mapM nmV) with
        | none => rw [hr] at hb; simp [nmV] at hb
        | some bs' =>
          obtain ⟨i1, i2⟩ := ih vs bs' (by simpa using hl) hr env
          have e1 : assignEach (Expr.Name x p :: es) env = (false, assign (.Name x p) env) :: assignEach es env := rfl
          rw [e1]
          refine ⟨by simp [i1], ?_⟩
          rw [List.findIdx?_cons, i2]
          rfl
      | _ => simp [nmV] at hb

theorem asgT_of (all : FxAll fx) (hq : fx.qt = true) {t : Expr} {v : V} {bs : List (Str × V)} {Q : St → Prop} (ht : tgtV t v = some bs) (hn : ∀ b ∈ bs, isVar fx b.1) (h : Q ⟨setAll σ.loc bs, σ.hp⟩) : AsgT fx X t v σ Q := by
  unfold tgtV at ht
  split at ht
  · cases ht
    exact asgName all (hn _ (.head _)) h
  · rename_i es n p
    split at ht
    · rename_i vs
      split at ht
      · rename_i hlen
        intro W s u R r
        obtain ⟨a, xs, rfl, h2, h3⟩ := R.tup_at r
        obtain ⟨q1, q2⟩ := tgt_each es vs bs hlen ht fx.env
        refine assign_Tuple_tuple (all.ok.handled hq) (tupObj_isTup h2) (by rw [q1, hlen, h3.length]; simp) q2 fun h' he => ?_
        have R' := R.keep (h' := h') s.toks fun b o e => he b o (Nat.ne_of_lt (Heap.lt_size e)) e
        exact asgInOrder all es vs bs hlen ht hn _ σ W _ _ _ (by simpa using h3) R' fun h'' tk a => ⟨W, _, .refl _, a, h⟩
      · cases ht
    · cases ht
  · cases ht

/-! stores into lists -/
def SetT (fx : Fx) (X : XP) (o i v : V) (σ : St) (Q : St → Prop) : Prop :=
  ∀ W s u₁ u₂ u₃, Rep fx σ W s → VR W o u₁ → VR W i u₂ → VR W v u₃ → wpAny fx.M fx.A (setItem u₁ u₂ u₃) (PU fx W Q) (PX fx W X) s

theorem set_list {j : Nat} {xs : List V} {k : Int} {v : V} {Q : St → Prop} (ho : σ.hp[j]? = some (.list xs)) (h0 : 0 ≤ k) (h1 : k < xs.length) (hk : k < 2 ^ 63) (h : Q ⟨σ.loc, σ.hp.set j (.list (xs.set k.toNat v))⟩) : SetT fx X (.ref j) (.int k) v σ Q := by
  intro W s u₁ u₂ u₃ R r₁ r₂ r₃
  obtain ⟨a, ys, n, rfl, ha, h2, h3⟩ := R.list_at ho r₁
  cases r₂
  refine ki_setAt h2 h0 hk (by simp [← h3.length]; exact h1) ⟨W, _, .refl _, R.upd ho ha (o' := .list (xs.set k.toNat v)) (ob' := listObj (ys.set k.toNat u₃) n) (.list n (h3.set _ r₃)) s.toks (Heap.SameBut.update ..).extBut ?_, h⟩
  rw [Heap.get?_update_self _ h2 rfl]
  simp [Obj.mapSeq]

theorem evAssignSub {o i e : Expr} {p pos : Pos} {Q : Fl → St → Prop} (h : EvE fx X e σ (fun v σ₁ => EvE fx X o σ₁ (fun ov σ₂ => EvE fx X i σ₂ (fun iv σ₃ => SetT fx X ov iv v σ₃ (fun σ₄ => Q .next σ₄))))) (hc : notComp e = true) : EvS fx X (.Assign [.Subscript o i p] e pos) σ Q := by
  intro W s R
  refine wpAny_Assign_Subscript (wpAny_mono (h W s R) ?_ fun _ _ x => x) (swaps_false hc _ _ _)
  refine fun u₁ s₁ zz => zz.elim fun W₁ σ₁ v₁ le₁ R₁ r₁ h₁ => ?_
  refine wpAny_mono (h₁ W₁ s₁ R₁) ?_ fun _ _ x => x.mono le₁ fun _ _ y => y
  refine fun u₂ s₂ zz => zz.elim fun W₂ σ₂ v₂ le₂ R₂ r₂ h₂ => ?_
  refine wpAny_mono (h₂ W₂ s₂ R₂) ?_ fun _ _ x => x.mono (le₁.trans le₂) fun _ _ y => y
  refine fun u₃ s₃ zz => zz.elim fun W₃ σ₃ v₃ le₃ R₃ r₃ h₃ => ?_
  refine wpAny_mono (h₃ W₃ s₃ u₂ u₃ u₁ R₃ (r₂.mono le₃) r₃ (r₁.mono (le₂.trans le₃))) ?_ fun _ _ x => x.mono ((le₁.trans le₂).trans le₃) fun _ _ y => y
  refine fun _ s₄ zz => zz.elim fun W₄ σ₄ le₄ R₄ h₄ => ?_
  exact ⟨W₄, σ₄, .next, ((le₁.trans le₂).trans le₃).trans le₄, R₄, .next, h₄⟩
end
end Mine

set_option autoImplicit false
namespace Mine
open PySem PySem.W PySem.Calls PySem.Spec PyProof.Rows

theorem ofString_inj (a b : String) : (Str.ofString a = Str.ofString b) = (a = b) := by
  refine propext ⟨fun h => ?_, fun h => h ▸ rfl⟩
  rw [Str.ofString_eq_toList, Str.ofString_eq_toList] at h
  have h1 : (a.toList.map Char.toNat) = (b.toList.map Char.toNat) := by simpa using h
  have h2 : a.toList = b.toList := by
    have inj : ∀ c d : Char, c.toNat = d.toNat → c = d := fun c d e => Char.toNat_inj.mp e
    exact List.map_inj_right inj |>.mp h1
  exact String.toList_inj.mp h2

section
variable {fx : Fx} {X : XP} {σ : St} {W : Wd} {s : Shared}

theorem evCmp2 {l r₁ r₂ : Expr} {op₁ op₂ : CmpOp} {pos : Pos} {Q : V → St → Prop}
    (h : EvE fx X l σ (fun a σ₁ => EvE fx X r₁ σ₁ (fun b σ₂ => CmpT fx X op₁ a b σ₂ (fun c σ₃ => TruT fx X c σ₃ (fun t σ₄ => if t then EvE fx X r₂ σ₄ (fun d σ₅ => CmpT fx X op₂ b d σ₅ Q) else Q c σ₄)))))
    (hm : lastMarks [op₁, op₂] [r₁, r₂] = false) : EvE fx X (.Compare l [op₁, op₂] [r₁, r₂] pos) σ Q := by
  intro W s R
  refine Compare_chain (ops := []) (rs := []) (wpAny_mono (h W s R) ?_ fun _ _ x => x) hm
  refine fun u₁ s₁ zz => zz.elim fun W₁ σ₁ a le₁ R₁ q₁ h₁ => ?_
  refine chain_link (wpAny_mono (h₁ W₁ s₁ R₁) ?_ fun _ _ x => x.mono le₁ fun _ _ y => y)
  refine fun u₂ s₂ zz => zz.elim fun W₂ σ₂ b le₂ R₂ q₂ h₂ => ?_
  refine wpAny_mono (h₂ W₂ s₂ u₁ u₂ R₂ (q₁.mono le₂) q₂) ?_ fun _ _ x => x.mono (le₁.trans le₂) fun _ _ y => y
  refine fun u₃ s₃ zz => zz.elim fun W₃ σ₃ c le₃ R₃ q₃ h₃ => ?_
  have LE := (le₁.trans le₂).trans le₃
  refine wpAny_mono (h₃ W₃ s₃ u₃ R₃ q₃) ?_ fun _ _ x => x.mono LE fun _ _ y => y
  refine fun t s₄ zz => zz.elim fun W₄ σ₄ le₄ R₄ h₄ => ?_
  cases t with
  | true =>
    refine chain_last (wpAny_mono (h₄ W₄ s₄ R₄) ?_ fun _ _ x => x.mono (LE.trans le₄) fun _ _ y => y)
    refine fun u₅ s₅ zz => zz.elim fun W₅ σ₅ d le₅ R₅ q₅ h₅ => ?_
    exact wpAny_mono (h₅ W₅ s₅ u₂ u₅ R₅ (q₂.mono ((le₃.trans le₄).trans le₅)) q₅) (fun _ _ x => x.mono ((LE.trans le₄).trans le₅) fun _ _ y => y) fun _ _ x => x.mono ((LE.trans le₄).trans le₅) fun _ _ y => y
  | false => exact ⟨W₄, σ₄, c, LE.trans le₄, R₄, q₃.mono le₄, h₄⟩

/-! methods -/
def baseOk : Expr → Bool
  | .Call .. => false
  | _ => true
theorem attributeBase_plain {o : Expr} (h : baseOk o = true) (attr : Str) (env : Env) (whole : Sem Value) : attributeBase o attr env whole = whole := by
  cases o <;> first | rfl | cases h

theorem star_all : ∀ {es : List Expr}, es.all noStar = true → ∀ (pos : Pos) (env : Env), (backTo pos (starEach es env)).all (!·.1) = true
  | [], _, _, _ => rfl
  | e :: r, h, pos, env => by
    rw [List.all_cons, Bool.and_eq_true] at h
    rw [star_cons h.1]
    have := star_all h.2 pos env
    simpa [backTo] using this

theorem evMeth {o : Expr} {name : Str} {apos pos : Pos} {args : List Expr} {Q : V → St → Prop} (hb : baseOk o = true) (ha : args.all noStar = true) (hn : args.length < 30) (hp : (apos.endLine == pos.line) = true)
    (h : EvE fx X o σ (fun ov σ₁ => ∃ id, GetM fx ov name id σ₁ ∧ EvEs fx X args σ₁ (fun vs σ₂ => CallT fx X (.builtin id) (ov :: vs) σ₂ Q))) : EvE fx X (.Call (.Attribute o name apos) args [] pos) σ Q := by
  intro W s R
  have he : eval (.Call (.Attribute o name apos) args [] pos) fx.env = (do
      let ov ← attributeBase o name fx.env (eval o fx.env)
      standAt apos.atName
      methodCall o name apos pos fx.env ov (args.length + 0) (backTo pos (starEach args fx.env)) []) := rfl
  rw [he, attributeBase_plain hb]
  refine wpAny_bind (wpAny_mono (h W s R) ?_ fun _ _ x => x)
  rintro u s₁ ⟨W₁, σ₁, ov, le₁, R₁, r₁, id, hg, h₁⟩
  refine wpAny_bind (wpAny_standAt ?_)
  unfold methodCall
  have hf : methodCallForm (args.length + 0) (backTo pos (starEach args fx.env)) [] = true := by
    unfold methodCallForm
    rw [star_all ha]
    simp; omega
  rw [hf]
  unfold calleeOf
  simp only [if_true]
  refine wpAny_bind (wpAny_holding (hg W₁ s₁ u _ _ _ R₁ r₁ ?_))
  unfold methodCallPos
  simp only [Bool.not_true, Bool.false_or, hp, if_true]
  refine wpAny_bind (wpAny_pure ?_)
  cases args with
  | nil =>
    refine callWith_method0 ?_
    have h₂ := h₁ W₁ s₁ pos R₁
    have h₃ : wpAny fx.M fx.A (spliced (backTo pos (starEach [] fx.env))) (fun us s' => us = [] ∧ PVs fx W₁ (fun vs σ₂ => CallT fx X (.builtin id) (ov :: vs) σ₂ Q) us s') (PX fx W₁ X) s₁ := by
      have e0 : spliced (backTo pos (starEach [] fx.env)) = pure [] := rfl
      rw [e0] at h₂ ⊢
      exact fun Γ p hΓ => ⟨rfl, h₂ Γ p hΓ⟩
    have e0 : spliced (backTo pos (starEach [] fx.env)) = pure [] := rfl
    rw [e0] at h₃
    intro Γ p hΓ
    obtain ⟨_, W₂, σ₂, vs, le₂, R₂, r₂, h₄⟩ := h₃ Γ p hΓ
    cases r₂
    exact wpAny_mono (h₄ W₂ s₁ [u] R₂ (.cons (r₁.mono le₂) .nil)) (fun _ _ x => x.mono (le₁.trans le₂) fun _ _ y => y) (fun _ _ x => x.mono (le₁.trans le₂) fun _ _ y => y) Γ p hΓ
  | cons e rest =>
    rw [List.all_cons, Bool.and_eq_true] at ha
    refine callWith_method1 (wpAny_mono (h₁ W₁ s₁ pos R₁) ?_ fun _ _ x => x.mono le₁ fun _ _ y => y) (star_cons ha.1 _ _) (star_any ha.2 _ _)
    refine fun us s₂ zz => zz.elim fun W₂ σ₂ vs le₂ R₂ r₂ h₂ => ?_
    exact wpAny_mono (h₂ W₂ s₂ (u :: us) R₂ (.cons (r₁.mono le₂) r₂)) (fun _ _ x => x.mono (le₁.trans le₂) fun _ _ y => y) fun _ _ x => x.mono (le₁.trans le₂) fun _ _ y => y

/-! slices -/
def pickV (vs : List V) (lo hi : Option Int) : List V := (vs.drop (kms_lo lo vs.length)).take (kms_hi hi vs.length - kms_lo lo vs.length)
def EvO (fx : Fx) (X : XP) (o : Option Expr) (σ : St) (Q : Option Int → St → Prop) : Prop := match o with
  | none => Q none σ
  | some e => EvE fx X e σ (fun v σ₁ => ∃ k, v = .int k ∧ Q (some k) σ₁)
theorem evO_run {o : Option Expr} {Q : Option Int → St → Prop} (h : EvO fx X o σ Q) (R : Rep fx σ W s) {Q' : Value → Shared → Prop} (k : ∀ u a W' σ' s', W.le W' → Rep fx σ' W' s' → IsPart u a → Q a σ' → Q' u s') :
    wpAny fx.M fx.A (valueOrNone (evalOpt o fx.env)) Q' (PX fx W X) s := by
  cases o with
  | none => exact wpAny_pure (k .none none W σ s (.refl _) R .none h)
  | some e =>
    refine wpAny_mono (h W s R) ?_ fun _ _ x => x
    rintro u s₁ ⟨W₁, σ₁, v, le₁, R₁, r₁, a, rfl, h₁⟩
    cases r₁
    exact k _ (some a) W₁ σ₁ s₁ le₁ R₁ (.int _ _) h₁
def SliceV (o : V) (a b : Option Int) (σ : St) (Q : V → St → Prop) : Prop := ∃ i vs, o = .ref i ∧ (σ.hp[i]? = some (.list vs) ∧ vs.length ≤ sizeLine) ∧ Q (.ref σ.hp.length) ⟨σ.loc, σ.hp ++ [.list (pickV vs a b)]⟩
theorem evSlice {x : Str} {q pos sp : Pos} {lo hi : Option Expr} {Q : V → St → Prop} (h : EvE fx X (.Name x q) σ (fun o σ₁ => EvO fx X lo σ₁ (fun a σ₂ => EvO fx X hi σ₂ (fun b σ₃ => SliceV o a b σ₃ Q)))) : EvE fx X (.Subscript (.Name x q) (.Slice lo hi none sp) pos) σ Q := by
  intro W s R
  refine Subscript_ (wpAny_mono (h W s R) ?_ fun _ _ x => x)
  refine fun u₁ s₁ zz => zz.elim fun W₁ σ₁ o le₁ R₁ r₁ h₁ => ?_
  rw [arm_eval_Slice]
  refine wpAny_bind (wpAny_mono (evO_run h₁ R₁ (Q' := fun u s' => ∃ a W' σ', W₁.le W' ∧ Rep fx σ' W' s' ∧ IsPart u a ∧ EvO fx X hi σ' (fun b σ₃ => SliceV o a b σ₃ Q)) fun u a W' σ' s' le R p q => ⟨a, W', σ', le, R, p, q⟩) ?_ fun _ _ x => x.mono le₁ fun _ _ y => y)
  rintro ul s₂ ⟨a, W₂, σ₂, le₂, R₂, p₂, h₂⟩
  refine wpAny_bind (wpAny_holding (wpAny_mono (evO_run h₂ R₂ (Q' := fun u s' => ∃ b W' σ', W₂.le W' ∧ Rep fx σ' W' s' ∧ IsPart u b ∧ SliceV o a b σ' Q) fun u a W' σ' s' le R p q => ⟨a, W', σ', le, R, p, q⟩) ?_ fun _ _ x => x.mono (le₁.trans le₂) fun _ _ y => y))
  rintro uh s₃ ⟨b, W₃, σ₃, le₃, R₃, p₃, i, vs, rfl, ⟨h3, h4⟩, h5⟩
  refine wpAny_bind (wpAny_holding (wpAny_pure ?_))
  have LE := (le₁.trans le₂).trans le₃
  obtain ⟨l, xs, n, rfl, _, k1, k2⟩ := R₃.list_at h3 (r₁.mono (le₂.trans le₃))
  refine R₃.elim fun er g m news G F N C => ?_
  refine wpAny_newObj_type ?_ (by size_fits)
  refine slice_list F N (listObj_isList k1) p₂ p₃ (fun h' F' N' => ?_) (hsz := by rw [List.size_toArray, ← k2.length]; exact h4)
  rw [kms_pick_eq] at N'
  obtain ⟨W', le', hD, R'⟩ := Rep.addN er G C (o := .list (pickV vs a b)) F' N' (fun p hp => Nat.ne_of_lt (Nat.lt_succ_of_lt (Heap.lt_size (N p hp).1))) fun W' le => .list 0 (by
    unfold pickV kms_pick
    rw [k2.length]
    exact ((k2.mono le).drop _).take _)
  exact ⟨W', _, .ref σ₃.hp.length, LE.trans le', R', .ref hD, h5⟩
/-! all, any -/
theorem vrs_bools {bs : List Bool} {xs : List Value} (h : VRs W (bs.map .bool) xs) : xs = bs.map .bool := by
  induction bs generalizing xs with
  | nil => cases h; rfl
  | cons b bs ih =>
    cases h with
    | cons a r => cases a; rw [ih r]; rfl
theorem all_any (all : FxAll fx) (hq : fx.qt = true) {i : Nat} {bs : List Bool} {Q : V → St → Prop} (ho : σ.hp[i]? = some (.list (bs.map .bool))) :
    (Q (.bool (bs.all id)) σ → CallT fx X (.builtin "all") [.ref i] σ Q) ∧ (Q (.bool (bs.any id)) σ → CallT fx X (.builtin "any") [.ref i] σ Q) := by
  have hh : (fx.A.in1).handled = none := all.ok.handled hq
  have key : ∀ W s us, Rep fx σ W s → VRs W [.ref i] us → ∃ a, us = [.ref a] ∧ ∀ (Q' : Bool → Value → Prop), wpAny fx.M fx.A.in1 (pyIter (.ref a)) (fun it s₂ => ∃ I fp wr n P St tr, it = .ref I ∧ Walks fx.pg.prog fx.pg.w fx.A.in1 I fp wr n P St ∧ St 0 s₂.heap ∧ TruthOf fx.pg.prog fx.pg.w fx.A.in1 P tr ∧
      ((List.range n).all tr = bs.all id ∧ (List.range n).any tr = bs.any id) ∧ ∀ h' tk, (∀ b o, b ∉ wr → s₂.heap.get? b = some o → h'.get? b = some o) → Rep fx σ W { s₂ with heap := h', toks := tk }) (PX fx W X) s := by
    intro W s us R r
    cases r with
    | cons r₁ r =>
      cases r
      obtain ⟨a, xs, n, rfl, _, k1, k2⟩ := R.list_at ho r₁
      have ex := vrs_bools k2
      subst ex
      refine ⟨a, rfl, fun _ => wpAny_pyIter_list (listObj_isList k1) ?_⟩
      have hne : a ≠ s.heap.objs.size := Nat.ne_of_lt (Heap.lt_size k1)
      have len : (bs.map Value.bool).toArray.size = bs.length := by simp
      refine ⟨_, _, _, _, _, _, fun j => bs.getD j false, rfl, Walks.list hh s.heap.objs.size a hne (bs.map Value.bool).toArray, ⟨⟨_, Heap.get?_push_size _ rfl, rfl, rfl⟩, (listObj_isList k1).push _⟩, ?_, ?_, ?_⟩
      · intro j v s' Q' E' hP hQ
        have : v = .bool (bs.getD j false) := by
          rw [List.getElem?_toArray, List.getElem?_map] at hP
          cases e : bs[j]? with
          | none => rw [e] at hP; cases hP
          | some b => rw [e] at hP; cases hP; simp [List.getD, e]
        subst this
        exact wpAny_truthy_bool hQ
      · rw [len]
        constructor
        · rw [Bool.eq_iff_iff, List.all_eq_true, List.all_eq_true]
          constructor
          · intro h b hb
            obtain ⟨j, hj, rfl⟩ := List.getElem_of_mem hb
            have := h j (List.mem_range.mpr hj)
            simpa [List.getD, hj] using this
          · intro h j hj
            have hj' := List.mem_range.mp hj
            have := h bs[j] (List.getElem_mem hj')
            simpa [List.getD, hj'] using this
        · rw [Bool.eq_iff_iff, List.any_eq_true, List.any_eq_true]
          constructor
          · rintro ⟨j, hj, h⟩
            have hj' := List.mem_range.mp hj
            exact ⟨bs[j], List.getElem_mem hj', by simpa [List.getD, hj'] using h⟩
          · rintro ⟨b, hb, h⟩
            obtain ⟨j, hj, rfl⟩ := List.getElem_of_mem hb
            exact ⟨j, List.mem_range.mpr hj, by simpa [List.getD, hj] using h⟩
      · intro h' tk hk
        exact R.keep tk fun b o e => hk b o (by simp; exact Nat.ne_of_lt (Heap.lt_size e)) (Heap.get?_push_of_some _ e)
  constructor
  · intro h W s us R r
    obtain ⟨a, rfl, z⟩ := key W s us R r
    refine call_all_walk (wpAny_mono (z fun _ _ => True) ?_ fun _ _ x => x)
    rintro it s₂ ⟨I, fp, wr, n, P, St, tr, e, w1, w2, w3, ⟨w4, _⟩, w5⟩
    exact ⟨I, fp, wr, n, P, St, tr, e, w1, w2, w3, fun h' tk hk => by rw [w4]; exact .here (w5 h' tk hk) (.bool _) h⟩
  · intro h W s us R r
    obtain ⟨a, rfl, z⟩ := key W s us R r
    refine call_any_walk (wpAny_mono (z fun _ _ => True) ?_ fun _ _ x => x)
    rintro it s₂ ⟨I, fp, wr, n, P, St, tr, e, w1, w2, w3, ⟨_, w4⟩, w5⟩
    exact ⟨I, fp, wr, n, P, St, tr, e, w1, w2, w3, fun h' tk hk => by rw [w4]; exact .here (w5 h' tk hk) (.bool _) h⟩

/-! exceptions -/
abbrev veMro : List Value := [.type "ValueError", .type "Exception", .type "BaseException", .type "object"]
theorem evRaise (all : FxAll fx) (hq : fx.qt = true) {x : Str} {np cpos pos : Pos} {C : Addr} {e₀ : Expr} {rest : List Expr} {Q : Fl → St → Prop} (hg : fx.pg.gl x = some (.ref C)) (hgn : nsIn fx.pg.K mainGlobals x = some (some (.ref C))) (hcl : excIn fx.pg.K C veMro "ValueError.__new__" = true)
    (hk : fx.env.kindOf x = some .globalImplicit) (hd : (x == ("__debug__" : Str)) = false) (hs : (e₀ :: rest).all noStar = true)
    (h : EvEs fx X (e₀ :: rest) σ (fun vs σ₁ => vs.length ≤ sizeLine ∧ X (.ref C) σ₁)) : EvS fx X (.Raise (some (.Call (.Name x np) (e₀ :: rest) [] cpos)) none pos) σ Q := by
  intro W s R
  have O := own_of_in all.part (topRead_of all.top) hgn hcl
  obtain ⟨tl, N, nm, q, bs, hdct, sn, sub, ab, col, dd, k0, k1, k2, k3, k5, mN, hC, hN, hni, T⟩ := O.obj
  have hpl : (backTo cpos (starEach (e₀ :: rest) fx.env)).any (·.1) = false := star_any hs _ _
  rw [List.all_cons, Bool.and_eq_true] at hs
  have he := star_cons hs.1 rest fx.env
  refine wpAny_Raise_call_subU (C := C) (nm := nm) (q := q) (N := N) (bs := bs) (bm := tl) (hdct := hdct) (sn := sn) (sub := sub) (ab := ab) (col := col) (dd := dd) (k0 := k0) (k1 := k1) (k2 := k2) (k3 := k3) (k5 := k5)
    F.excBase_ValueError (by decide) F.excBase_ValueError (mN := mN) (T.hasType F.excBase_ValueError.hasBase) (all.ok.handled hq) hpl hni (all.glbAt x (.ref C) np hg hk s _ _ (all.stays R) ⟨rfl, ?_⟩ hd)
  have h' := h W s cpos R
  rw [he] at h' ⊢
  refine Calls.evalArgs_plain (wpAny_mono h' (fun us s₂ ⟨W₂, σ₂, vs, le₂, R₂, r₂, h₂, h₃⟩ => ?_) fun _ _ y => y)
  have st₂ := all.stays R₂
  exact ⟨rfl, r₂.length ▸ h₂, st₂ _ _ hC, hN.keeps st₂, T.keeps st₂, fun h'' e hx => ⟨e, .ref C, .made, W₂, σ₂, rfl, le₂, XRep.raise all R₂ hx, h₃⟩⟩

/-- the handlers of a try -/
def EvH (fx : Fx) (X : XP) (hs : List ExceptHandler) (cls : Value) (σ : St) (Q : Fl → St → Prop) : Prop :=
  ∀ e W s, XRep fx σ W e cls .fly s → wpAny fx.M fx.A (handleBy (.ref e) fx.env hs) (PF fx W Q) (PX fx W X) s
theorem evTry (all : FxAll fx) (hL : fx.env.locals = fx.L) {b : List Stmt} {h₀ : ExceptHandler} {hs : List ExceptHandler} {pos : Pos} {Xh : XP} {Q : Fl → St → Prop} (h : EvSs fx Xh b σ Q) (hh : ∀ cls σ', Xh cls σ' → EvH fx X (h₀ :: hs) cls σ' Q) : EvS fx X (.Try b (h₀ :: hs) [] [] pos) σ Q := by
  intro W s R
  refine wpAny_Try_except (wpAny_mono (h W s R) ?_ ?_)
  · refine fun f s₁ zz => zz.elim fun W₁ σ₁ fl le₁ R₁ r₁ h₁ => ?_
    cases r₁ with
    | next => exact wpAny_execs_nil ⟨W₁, σ₁, .next, le₁, R₁, .next, h₁⟩
    | brk => exact ⟨W₁, σ₁, .brk, le₁, R₁, .brk, h₁⟩
    | cont => exact ⟨W₁, σ₁, .cont, le₁, R₁, .cont, h₁⟩
    | ret r => exact ⟨W₁, σ₁, .ret _, le₁, R₁, .ret r, h₁⟩
  · rintro u s₁ ⟨e, cls, k, W₁, σ₁, rfl, le₁, x, hX⟩
    have ef := all.envf hL
    have hh' := hh cls σ₁ hX e W₁
    rw [ef] at hh' ⊢
    exact x.note all.frs all.ffr fun h₂ x₂ => x₂.land all.ffr fun h₃ x₃ => wpAny_mono (hh' _ x₃) (fun _ _ y => y.mono le₁ fun _ _ z => z) fun _ _ y => y.mono le₁ fun _ _ z => z

theorem XRep.ty {e : Addr} {cls : Value} {k : Kd} {M : Model} (x : XRep fx σ W e cls k s) : Looks M s.heap (typeOf (.ref e)) cls := by
  obtain ⟨_, g, m, news, B, c, f⟩ := x
  obtain ⟨oe, vs, h1, h2, h3⟩ := f.there
  have z : Looks M s.heap (typeOf (.ref e)) oe.cls := (Looks.ld h1).andThen .now
  exact h2 ▸ z

/-- the frame, while it handles an exception -/
abbrev fxH (fx : Fx) (e : Addr) : Fx := { fx with A := fx.A.mark (some (.ref e)), qt := false }
theorem fxH_all (all : FxAll fx) (e : Addr) : FxAll (fxH fx e) where
  ok := ⟨all.ok.kind, fun q => by cases q⟩
  locs := all.locs
  cex := all.cex
  cinj := all.cinj
  cdef := all.cdef
  scr := all.scr
  egl := all.egl
  ebu := all.ebu
  top := all.top
  part := all.part
  below := all.below
  dicts := all.dicts
  frs := all.frs
  ffr := all.ffr
  fkd := all.fkd
  depth := all.depth
  room := all.room
  mfn := all.mfn
  envf := all.envf

theorem Rep.toH {e : Addr} (R : Rep fx σ W s) : Rep (fxH fx e) σ W s := Rep.cast (fx := fx) (A := fx.A) (q := fx.qt) R
theorem Rep.ofH {e : Addr} (R : Rep (fxH fx e) σ W s) : Rep fx σ W s := Rep.cast (fx := fx) (A' := fx.A) (q' := fx.qt) R

theorem evH_hit1 (all : FxAll fx) {y n : Str} {p pos : Pos} {b₀ : Stmt} {suite : List Stmt} {rest : List ExceptHandler} {C : Addr} {c : Value} {Q : Fl → St → Prop} (hg : fx.pg.gl y = some c) (hk : fx.env.kindOf y = some .globalImplicit) (hd : (y == ("__debug__" : Str)) = false) (hx : exmOne fx.pg.K (.ref C) c = some true)
    (hL : fx.env.locals = fx.L) (hn : fx.env.kindOf n = some .local)
    (h : ∀ e, EvSs (fxH fx e) X0 (b₀ :: suite) ⟨setN σ.loc n (.ref σ.hp.length), σ.hp ++ [.exn C]⟩ (fun fl σ' => Q fl ⟨fun z => if z = n then none else σ'.loc z, σ'.hp⟩)) : EvH fx X (.ExceptHandler (some (.Name y p)) (some n) (b₀ :: suite) pos :: rest) (.ref C) σ Q := by
  intro e W s x
  refine wpAny_handleBy_cons (codeAny_handlers_test (all.glbAt y c p hg hk s _ _ x.stays ((exm_one (all.part.keeps x.stays) x.ty hx).here ?_) hd)) (by intro q; cases q)
  refine codeAny_handlers_suite_as (x.again all.ffr fun h₁ x₁ => ?_)
  obtain ⟨R₁, v₁⟩ := (x₁.catch all).2 C rfl
  have le₁ : W.le ⟨W.al ++ [e], W.tp, W.sc⟩ := ⟨List.prefix_append _ _, fun _ h => h, rfl⟩
  refine storeVar (fxH_all all e) (x := n) ⟨hL, .inl hn⟩ R₁.toH v₁ fun h₂ tk₂ R₂ => ?_
  refine wpAny_mono (h e _ _ R₂) ?_ fun _ _ y => y.never.elim
  refine fun f s₃ zz => zz.elim fun W₃ σ₃ fl le₃ R₃ r₃ h₃ => ?_
  have R₃' := R₃.ofH
  obtain ⟨_, g, m, news, G, F, N, Co⟩ := id R₃'
  refine wpAny_nameGoes_keeps hn (by rw [hL]; exact F.ns) (by rw [all.ok.kind]; rfl) fun h₄ v hn₄ hs₄ => ?_
  rw [hL] at hn₄ hs₄
  refine ⟨W₃, _, fl, le₁.trans le₃, R₃'.delLoc (x := n) (all.mfn hL) hn _ (fun z hz m' hm' => ?_) hn₄ hs₄, r₃, h₃⟩
  simp only [hz, if_false]
  obtain ⟨o, es, ep, a1, a2, _, a4⟩ := F.ns
  obtain ⟨o', es', ep', b1, b2, _, b4⟩ := hm'
  rw [a1] at b1; cases b1
  rw [a2] at b2; cases b2
  rw [← a4, ← b4]
end
end Mine

set_option autoImplicit false
namespace Mine
open PySem PySem.W PySem.Calls PySem.Spec PyProof.Rows

/-! the rules by which a law is walked -/
structure Cx where
  pg : Pg
  scope : Scope
  ns : List Int
  lev : Nat
  qt : Bool

def okN (x : Str) : Bool := !(x == ("__debug__" : Str)) && !(x == ("__classdict__" : Str))
def relab (sc : Scope) : Scope := { sc with names := sc.names.map fun (n, k) => if k == .free then (n, .cell) else (n, k) }
def compOkB (sc csc : Scope) : Bool := csc.kind == .function && csc.names.all fun y => y.2 != .cell && (y.2 != .local || csc.names.lookup y.1 == some .local) && (y.2 != .free || (csc.names.lookup y.1 == some .free && sc.names.lookup y.1 == some .cell))
def varOk (sc : Scope) (x : Str) : Bool := sc.names.lookup x == some .local || sc.names.lookup x == some .cell
def tgtOk (f : Str → Bool) : Expr → Bool
  | .Name x _ => f x
  | .Tuple es _ _ => es.all fun e => match e with | .Name x _ => f x | _ => false
  | _ => false
def plainT : Expr → Bool
  | .UnaryOp .. | .BoolOp .. | .IfExp .. | .Compare .. => false
  | _ => true
def notSet : Expr → Bool
  | .Set .. => false
  | _ => true


def nmsOk (sc : Scope) : Bool := sc.names.all fun y => okN y.1

structure FxAt (c : Cx) (fx : Fx) : Prop where
  all : FxAll fx
  pg : fx.pg = c.pg
  sc : fx.env.scope = c.scope
  ns : fx.ns = c.ns
  lev : c.lev ≤ fx.lev
  qt : c.qt = true → fx.qt = true
  nk : nmsOk c.scope = true

theorem FxAt.kind {c : Cx} {fx : Fx} (a : FxAt c fx) (x : Str) : fx.env.kindOf x = c.scope.names.lookup x := by
  show fx.env.scope.names.lookup x = _
  rw [a.sc]
theorem FxAt.push {c : Cx} {fx : Fx} (F : FxAt c fx) {ps : List (Addr × Obj)} (a : FxAll (fx.pushL ps)) : FxAt c (fx.pushL ps) := ⟨a, F.pg, F.sc, F.ns, F.lev, F.qt, F.nk⟩
theorem FxAt.units {c : Cx} {fx : Fx} (F : FxAt c fx) : fx.A.units + 64 < cLine := by have := F.all.units; omega
theorem okN_of {x : Str} (h : okN x = true) : (x == ("__debug__" : Str)) = false ∧ (x == ("__classdict__" : Str)) = false := by
  unfold okN at h
  rw [Bool.and_eq_true, Bool.not_eq_true', Bool.not_eq_true'] at h
  exact h

theorem tgt_ok {f : Str → Bool} {t : Expr} {v : V} {bs : List (Str × V)} (h : tgtOk f t = true) (e : tgtV t v = some bs) : ∀ b ∈ bs, f b.1 = true := by
  unfold tgtV at e
  split at e
  · cases e
    intro b hb
    rw [List.mem_singleton.mp hb]
    exact h
  · rename_i es n p
    split at e
    · rename_i vs
      split at e
      · rename_i hlen
        have h' : (es.all fun e => match e with | .Name x _ => f x | _ => false) = true := h
        clear h
        revert vs bs
        induction es with
        | nil =>
          intro bs vs hlen e
          simp at e
          subst e
          exact fun b hb => by cases hb
        | cons e0 es ih =>
          intro bs vs hlen e
          cases vs with
          | nil => simp at hlen
          | cons v vs =>
            rw [List.zip_cons_cons, List.mapM_cons] at e
            rw [List.all_cons, Bool.and_eq_true] at h'
            cases e0 with
            | Name x p =>
              cases hr : ((es.zip vs).mapM nmV) with
              | none => rw [hr] at e; simp [nmV] at e
              | some bs' =>
                rw [hr] at e
                simp [nmV] at e
                subst e
                intro b hb
                rcases List.mem_cons.mp hb with rfl | hb
                · exact h'.1
                · exact ih h'.2 vs (by simpa using hlen) hr b hb
            | _ => simp [nmV] at e
      · cases e
    · cases e
  · cases e

theorem compOk_of {env : Env} {sc csc : Scope} (hs : env.scope = sc) (h : compOkB sc csc = true) : CompOk env csc := by
  unfold compOkB at h
  rw [Bool.and_eq_true, List.all_eq_true] at h
  obtain ⟨h1, h2⟩ := h
  have h3 : ∀ y ∈ csc.names, y.2 ≠ .cell ∧ (y.2 = .local → csc.names.lookup y.1 = some .local) ∧ (y.2 = .free → csc.names.lookup y.1 = some .free ∧ sc.names.lookup y.1 = some .cell) := fun y hy => by
    have := h2 y hy
    simp only [Bool.and_eq_true, Bool.or_eq_true, bne_iff_ne, beq_iff_eq, ne_eq] at this
    exact ⟨this.1.1, fun q => this.1.2.resolve_left fun z => z q, fun q => this.2.resolve_left fun z => z q⟩
  exact ⟨by simpa using h1, fun y hy => (h3 y hy).1, fun y hy => (h3 y hy).2.1, fun y hy q => ((h3 y hy).2.2 q).1, fun n hn => by
    show env.scope.names.lookup n = some .cell
    rw [hs]
    exact ((h3 _ (lookup_mem hn)).2.2 rfl).2⟩

theorem relabel_eq {env : Env} {csc : Scope} (co : CompOk env csc) (hk : env.scope.kind = .function) : relabel csc env = relab csc := by
  unfold relabel relab
  congr 1
  refine List.map_congr_left fun y hy => ?_
  obtain ⟨n, k⟩ := y
  dsimp only
  by_cases q : k = .free
  · subst q
    have := co.free n (co.frees _ hy rfl)
    simp [hk, this]
  · have : (k == NameKind.free) = false := by simpa using q
    simp [this]

theorem folded_of {iter : Expr} (h : notSet iter = true) (env : Env) (x : Value) : foldedSetIterable iter env x = pure x := by
  cases iter <;> first | rfl | cases h


theorem nms_at {sc : Scope} {x : Str} {k : NameKind} (h : nmsOk sc = true) (e : sc.names.lookup x = some k) : okN x = true := List.all_eq_true.mp h _ (lookup_mem e)
theorem FxAt.name {c : Cx} {fx : Fx} (F : FxAt c fx) {x : Str} {k : NameKind} (e : c.scope.names.lookup x = some k) : (x == ("__debug__" : Str)) = false ∧ (x == ("__classdict__" : Str)) = false := okN_of (nms_at F.nk e)
theorem FxAt.okName {c : Cx} {fx : Fx} (F : FxAt c fx) {σ : St} {W : Wd} {s : Shared} (R : Rep fx σ W s) {x : Str} {v : V} (hv : σ.loc x = some v) : (x == ("__debug__" : Str)) = false ∧ (x == ("__classdict__" : Str)) = false := by
  refine R.elim fun _ g m news G Fr N C => ?_
  obtain ⟨u, _, n⟩ := C.loc x v hv
  cases n with
  | loc a _ _ => exact F.name (by rw [← F.kind]; exact a)
  | comp a _ _ => exact F.name (by rw [← F.kind]; exact a)
  | cell a _ _ _ => rcases a with a | a <;> exact F.name (by rw [← F.kind]; exact a)
section
variable {fx : Fx} {X : XP} {σ : St}
theorem CmpT.mono {op : CmpOp} {a b : V} {Q Q' : V → St → Prop} (h : CmpT fx X op a b σ Q) (hq : ∀ v σ', Q v σ' → Q' v σ') : CmpT fx X op a b σ Q' :=
  fun W s u₁ u₂ R r₁ r₂ => wpAny_mono (h W s u₁ u₂ R r₁ r₂) (fun _ _ x => x.mono (.refl _) hq) fun _ _ x => x
theorem TruT.mono {a : V} {Q Q' : Bool → St → Prop} (h : TruT fx X a σ Q) (hq : ∀ v σ', Q v σ' → Q' v σ') : TruT fx X a σ Q' :=
  fun W s u R r => wpAny_mono (h W s u R r) (fun _ _ x => x.mono (.refl _) hq) fun _ _ x => x
theorem EvO.mono' {o : Option Expr} {Q Q' : Option Int → St → Prop} (h : EvO fx X o σ Q) (hq : ∀ v σ', Q v σ' → Q' v σ') : EvO fx X o σ Q' := by
  cases o with
  | none => exact hq _ _ h
  | some e => exact EvE.mono (fx := fx) (X := X) h fun v σ' ⟨k, a, b⟩ => ⟨k, a, hq _ _ b⟩
end
theorem plainT_of {e : Expr} (h : plainT e = true) (env : Env) (whole : Sem Value) : isTrue e env whole = (do let v ← whole; standAt e.pos; holding [v] (truthy v)) := by
  cases e <;> first | rfl | cases h


theorem isVar_of {c : Cx} {fx : Fx} (F : FxAt c fx) (hL : fx.env.locals = fx.L) {x : Str} (h : varOk c.scope x = true) : isVar fx x := by
  refine ⟨hL, ?_⟩
  rw [F.kind]
  simpa [varOk] using h

abbrev Lo := Str → Option V
abbrev KV := V → Lo → List O → Prop
abbrev KB := Bool → Lo → List O → Prop
abbrev KF := Fl → Lo → List O → Prop
abbrev KI := List V → (St → Prop) → Lo → List O → Prop
@[irreducible] def E (c : Cx) (X : XP) (e : Expr) (l : Lo) (hp : List O) (K : KV) : Prop := ∀ fx, FxAt c fx → EvE fx X e ⟨l, hp⟩ fun v σ => K v σ.loc σ.hp
@[irreducible] def Es (c : Cx) (X : XP) (es : List Expr) (l : Lo) (hp : List O) (K : List V → Lo → List O → Prop) : Prop := ∀ fx, FxAt c fx → EvEs fx X es ⟨l, hp⟩ fun v σ => K v σ.loc σ.hp
@[irreducible] def EL (c : Cx) (X : XP) (op : BoolOp) (es : List Expr) (l : Lo) (hp : List O) (K : KV) : Prop := ∀ fx, FxAt c fx → ∀ pos, EvE fx X (.BoolOp op es pos) ⟨l, hp⟩ fun v σ => K v σ.loc σ.hp
@[irreducible] def B (c : Cx) (X : XP) (e : Expr) (l : Lo) (hp : List O) (K : KB) : Prop := ∀ fx, FxAt c fx → EvB fx X e ⟨l, hp⟩ fun v σ => K v σ.loc σ.hp
@[irreducible] def BL (c : Cx) (X : XP) (op : BoolOp) (es : List Expr) (l : Lo) (hp : List O) (K : KB) : Prop := ∀ fx, FxAt c fx → ∀ pos, EvB fx X (.BoolOp op es pos) ⟨l, hp⟩ fun v σ => K v σ.loc σ.hp
@[irreducible] def I (c : Cx) (X : XP) (e : Expr) (l : Lo) (hp : List O) (P : KI) : Prop := ∀ fx, FxAt c fx → IterT fx X e ⟨l, hp⟩ fun its need σ => P its need σ.loc σ.hp
@[irreducible] def S (c : Cx) (X : XP) (st : Stmt) (l : Lo) (hp : List O) (K : KF) : Prop := ∀ fx, FxAt c fx → fx.env.locals = fx.L → EvS fx X st ⟨l, hp⟩ fun v σ => K v σ.loc σ.hp
@[irreducible] def Ss (c : Cx) (X : XP) (ss : List Stmt) (l : Lo) (hp : List O) (K : KF) : Prop := ∀ fx, FxAt c fx → fx.env.locals = fx.L → EvSs fx X ss ⟨l, hp⟩ fun v σ => K v σ.loc σ.hp
@[irreducible] def Bin (c : Cx) (X : XP) (op : Operator) (a b : V) (l : Lo) (hp : List O) (K : KV) : Prop := ∀ fx, FxAt c fx → BinT fx X op a b ⟨l, hp⟩ fun v σ => K v σ.loc σ.hp
@[irreducible] def Un (c : Cx) (X : XP) (op : UnaryOp) (a : V) (l : Lo) (hp : List O) (K : KV) : Prop := ∀ fx, FxAt c fx → UnT fx X op a ⟨l, hp⟩ fun v σ => K v σ.loc σ.hp
@[irreducible] def Cmp (c : Cx) (X : XP) (op : CmpOp) (a b : V) (l : Lo) (hp : List O) (K : KV) : Prop := ∀ fx, FxAt c fx → CmpT fx X op a b ⟨l, hp⟩ fun v σ => K v σ.loc σ.hp
@[irreducible] def Tru (c : Cx) (X : XP) (a : V) (l : Lo) (hp : List O) (K : KB) : Prop := ∀ fx, FxAt c fx → TruT fx X a ⟨l, hp⟩ fun v σ => K v σ.loc σ.hp
@[irreducible] def CB (c : Cx) (X : XP) (id : String) (vs : List V) (l : Lo) (hp : List O) (K : KV) : Prop := ∀ fx, FxAt c fx → CallT fx X (.builtin id) vs ⟨l, hp⟩ fun v σ => K v σ.loc σ.hp
@[irreducible] def CT (c : Cx) (X : XP) (T : String) (vs : List V) (l : Lo) (hp : List O) (K : KV) : Prop := ∀ fx, FxAt c fx → CallT fx X (.type T) vs ⟨l, hp⟩ fun v σ => K v σ.loc σ.hp
@[irreducible] def Sub (c : Cx) (X : XP) (o i : V) (l : Lo) (hp : List O) (K : KV) : Prop := ∀ fx, FxAt c fx → ∀ value slice, notSlice slice = true → SubT fx X value slice o i ⟨l, hp⟩ fun v σ => K v σ.loc σ.hp
@[irreducible] def Set' (c : Cx) (X : XP) (o i v : V) (l : Lo) (hp : List O) (K : Lo → List O → Prop) : Prop := ∀ fx, FxAt c fx → SetT fx X o i v ⟨l, hp⟩ fun σ => K σ.loc σ.hp
@[irreducible] def Srv (c : Cx) (v : V) (l : Lo) (hp : List O) (P : KI) : Prop := ∀ fx, FxAt c fx → SrvT fx v ⟨l, hp⟩ fun its need σ => P its need σ.loc σ.hp
@[irreducible] def Opt (c : Cx) (X : XP) (o : Option Expr) (l : Lo) (hp : List O) (K : Option Int → Lo → List O → Prop) : Prop := ∀ fx, FxAt c fx → EvO fx X o ⟨l, hp⟩ fun v σ => K v σ.loc σ.hp
@[irreducible] def Slc (o : V) (a b : Option Int) (l : Lo) (hp : List O) (K : KV) : Prop := SliceV o a b ⟨l, hp⟩ fun v σ => K v σ.loc σ.hp
@[irreducible] def Sz (vs : List V) (P : Prop) : Prop := vs.length ≤ sizeLine ∧ P
@[irreducible] def If (b : Bool) (P Q : Prop) : Prop := if b then P else Q
@[irreducible] def Lst (ov : V) (hp : List O) (P : Nat → Prop) : Prop := ∃ i vs, ov = .ref i ∧ hp[i]? = some (.list vs) ∧ P i
@[irreducible] def Rng (vs : List V) (P : List V → Prop) : Prop := RngP vs P
@[irreducible] def Hd (c : Cx) (X : XP) (hs : List ExceptHandler) (cls : Value) (l : Lo) (hp : List O) (K : KF) : Prop := ∀ fx, FxAt c fx → fx.env.locals = fx.L → EvH fx X hs cls ⟨l, hp⟩ fun v σ => K v σ.loc σ.hp
/-- what is asked at the side of a step -/
structure Side (P : Prop) : Prop where
  h : P
structure CxIs (c : Cx) (pg : Pg) (sc : Scope) (ns : List Int) (lev : Nat) (qt : Bool) : Prop where
  eq : c = ⟨pg, sc, ns, lev, qt⟩
section
variable {c : Cx} {X : XP} {l : Lo} {hp : List O} {K : KV} {p q r : Pos} {pg : Pg} {sc : Scope} {ns : List Int} {lev : Nat} {qt : Bool}

theorem e_int {i : Int} {k : Nat} (h : K (.int i) l hp) : E c X (.Constant (.int i) k p) l hp K := by unfold E; exact fun _ _ => evConstInt h
theorem e_str {i : Str} {k : Nat} (h : K (.str i) l hp) : E c X (.Constant (.str i) k p) l hp K := by unfold E; exact fun _ _ => evConstStr h
theorem e_bool {i : Bool} {k : Nat} (h : K (.bool i) l hp) : E c X (.Constant (.bool i) k p) l hp K := by unfold E; exact fun _ _ => evConstBool h
theorem e_none {k : Nat} (h : K .none l hp) : E c X (.Constant .none k p) l hp K := by unfold E; exact fun _ _ => evConstNone h
theorem e_name {x : Str} {v : V} (e : l x = some v) (h : K v l hp) : E c X (.Name x p) l hp K := by
  unfold E
  exact fun fx F W s R => evName F.all.ok e h (F.okName R e).1 (F.okName R e).2 W s R
theorem e_glob {x : Str} {v : Value} (hc : CxIs c pg sc ns lev qt) (k : sc.names.lookup x = some .globalImplicit) (g : pg.gl x = some v) (h : K (gV v) l hp) : E c X (.Name x p) l hp K := by
  obtain ⟨rfl⟩ := hc
  unfold E
  exact fun fx F => evGlob F.all (by rw [F.pg]; exact g) (by rw [F.kind]; exact k) (F.name k).1 h
theorem e_bin {a b : Expr} {op : Operator} (h : E c X a l hp fun v l hp => E c X b l hp fun w l hp => Bin c X op v w l hp K) : E c X (.BinOp a op b p) l hp K := by
  unfold E Bin at *
  exact fun fx F => evBin ((h fx F).mono fun v σ h₁ => (h₁ fx F).mono fun w σ' h₂ => h₂ fx F)
theorem e_un {a : Expr} {op : UnaryOp} (h : E c X a l hp fun v l hp => Un c X op v l hp K) : E c X (.UnaryOp op a p) l hp K := by
  unfold E Un at *
  exact fun fx F => evUn ((h fx F).mono fun v σ h₁ => h₁ fx F)
theorem e_boolop {op : BoolOp} {vs : List Expr} (h : EL c X op vs l hp K) : E c X (.BoolOp op vs p) l hp K := by
  unfold E EL at *
  exact fun fx F => h fx F p
theorem el_one {op : BoolOp} {e : Expr} (h : E c X e l hp K) : EL c X op [e] l hp K := by
  unfold E EL at *
  exact fun fx F _ => evBoolOne (h fx F)
theorem el_and {e e' : Expr} {r : List Expr} (h : E c X e l hp fun v l hp => Tru c X v l hp fun b l hp => If b (EL c X .And (e' :: r) l hp K) (K v l hp)) : EL c X .And (e :: e' :: r) l hp K := by
  unfold E EL Tru If at *
  refine fun fx F pos => evAnd ((h fx F).mono fun v σ h₁ => (h₁ fx F).mono fun b σ' h₂ => ?_)
  cases b with
  | true => exact h₂ fx F pos
  | false => exact h₂
theorem e_cmp {a b : Expr} {op : CmpOp} (hm : behindInMarks op b = false) (h : E c X a l hp fun v l hp => E c X b l hp fun w l hp => Cmp c X op v w l hp K) : E c X (.Compare a [op] [b] p) l hp K := by
  unfold E Cmp at *
  exact fun fx F => evCmp1 ((h fx F).mono fun v σ h₁ => (h₁ fx F).mono fun w σ' h₂ => h₂ fx F) hm
theorem e_cmp2 {a b d : Expr} {op₁ op₂ : CmpOp} (hm : lastMarks [op₁, op₂] [b, d] = false) (h : E c X a l hp fun v l hp => E c X b l hp fun w l hp => Cmp c X op₁ v w l hp fun r l hp => Tru c X r l hp fun t l hp => If t (E c X d l hp fun f l hp => Cmp c X op₂ w f l hp K) (K r l hp)) :
    E c X (.Compare a [op₁, op₂] [b, d] p) l hp K := by
  unfold E Cmp Tru If at *
  refine fun fx F => evCmp2 ((h fx F).mono fun v σ h₁ => (h₁ fx F).mono fun w σ' h₂ => (h₂ fx F).mono fun r σ'' h₃ => (h₃ fx F).mono fun t σ₄ h₄ => ?_) hm
  cases t with
  | true => exact (h₄ fx F).mono fun f σ₅ h₅ => h₅ fx F
  | false => exact h₄
theorem e_callB {f : Str} {a : Expr} {args : List Expr} {id : String} (hc : CxIs c pg sc ns lev qt) (g : pg.gl f = some (.builtin id)) (k : sc.names.lookup f = some .globalImplicit) (st : (a :: args).all noStar = true) (h : Es c X (a :: args) l hp fun vs l hp => CB c X id vs l hp K) : E c X (.Call (.Name f q) (a :: args) [] p) l hp K := by
  obtain ⟨rfl⟩ := hc
  unfold E
  unfold Es CB at h
  exact fun fx F => evCallB F.all (by rw [F.pg]; exact g) (by rw [F.kind]; exact k) (F.name k).1 st ((h fx F).mono fun vs σ h₁ => h₁ fx F)
theorem e_callT {f : Str} {a : Expr} {args : List Expr} {T : String} (hc : CxIs c pg sc ns lev qt) (g : pg.gl f = some (.type T)) (k : sc.names.lookup f = some .globalImplicit) (st : (a :: args).all noStar = true) (h : Es c X (a :: args) l hp fun vs l hp => CT c X T vs l hp K) : E c X (.Call (.Name f q) (a :: args) [] p) l hp K := by
  obtain ⟨rfl⟩ := hc
  unfold E
  unfold Es CT at h
  exact fun fx F => evCallTy F.all (by rw [F.pg]; exact g) (by rw [F.kind]; exact k) (F.name k).1 st ((h fx F).mono fun vs σ h₁ => h₁ fx F)
theorem e_callF {f : Str} {a : Expr} {args : List Expr} {d : Addr} (hc : CxIs c pg sc ns lev qt) (g : pg.gl f = some (.ref d)) (i : fnIn pg.K d = true) (k : sc.names.lookup f = some .globalImplicit) (st : (a :: args).all noStar = true) (h : Es c X (a :: args) l hp fun vs l hp => CallOK pg lev qt ns d vs hp (fun d hp' => X d ⟨l, hp'⟩) (fun v hp' => K v l hp')) : E c X (.Call (.Name f q) (a :: args) [] p) l hp K := by
  obtain ⟨rfl⟩ := hc
  unfold E
  unfold Es at h
  exact fun fx F => evCallF F.all (by rw [F.pg]; exact g) (by rw [F.kind]; exact k) (F.name k).1 (by rw [F.pg]; exact i) st ((h fx F).mono fun vs σ h₁ => callT_of (qt := qt) F.all F.lev F.qt (by rw [F.pg, F.ns]; exact h₁))
theorem lst_ref {i : Nat} {vs : List V} {P : Nat → Prop} (e : hp[i]? = some (.list vs)) (h : P i) : Lst (.ref i) hp P := by
  unfold Lst
  exact ⟨i, vs, rfl, e, h⟩
theorem e_append {o a : Expr} (hb : baseOk o = true) (ha : [a].all noStar = true) (hl : (q.endLine == p.line) = true) (h : E c X o l hp fun ov l₁ hp₁ => Lst ov hp₁ fun i => Es c X [a] l₁ hp₁ fun vs l hp => CB c X "list.append" (.ref i :: vs) l hp K) : E c X (.Call (.Attribute o "append" q) [a] [] p) l hp K := by
  unfold E Lst Es CB at *
  refine fun fx F => evMeth hb ha (by simp) hl ((h fx F).mono fun ov σ h₁ => ?_)
  obtain ⟨i, vs, rfl, e, h₂⟩ := h₁
  exact ⟨_, getM_list e PySem.F.slot_list_append PySem.F.type_list_append, (h₂ fx F).mono fun vs σ h₃ => h₃ fx F⟩
theorem e_sub {a b : Expr} (nsl : notSlice b = true) (h : E c X a l hp fun v l hp => E c X b l hp fun w l hp => Sub c X v w l hp K) : E c X (.Subscript a b p) l hp K := by
  unfold E Sub at *
  exact fun fx F => evSub ((h fx F).mono fun v σ h₁ => (h₁ fx F).mono fun w σ' h₂ => h₂ fx F a b nsl)
theorem e_slice {x : Str} {lo hi : Option Expr} (h : E c X (.Name x q) l hp fun o l hp => Opt c X lo l hp fun a l hp => Opt c X hi l hp fun b l hp => Slc o a b l hp K) : E c X (.Subscript (.Name x q) (.Slice lo hi none r) p) l hp K := by
  unfold E Opt Slc at *
  exact fun fx F => evSlice ((h fx F).mono fun o σ h₁ => (h₁ fx F).mono' fun a σ' h₂ => (h₂ fx F).mono' fun b σ'' h₃ => h₃)
theorem opt_none {K : Option Int → Lo → List O → Prop} (h : K none l hp) : Opt c X none l hp K := by unfold Opt; exact fun _ _ => h
theorem opt_some {e : Expr} {K : Option Int → Lo → List O → Prop} (h : E c X e l hp fun v l hp => ∃ k, v = .int k ∧ K (some k) l hp) : Opt c X (some e) l hp K := by
  unfold Opt
  unfold E at h
  exact fun fx F => h fx F
theorem slc_ref {i : Nat} {vs : List V} {a b : Option Int} (e : hp[i]? = some (.list vs)) (s : Side (vs.length ≤ sizeLine)) (h : K (.ref hp.length) l (hp ++ [.list (pickV vs a b)])) : Slc (.ref i) a b l hp K := by
  unfold Slc
  exact ⟨i, vs, rfl, ⟨e, s.h⟩, h⟩
theorem sz {vs : List V} {P : Prop} (s : Nat.ble vs.length 1000 = true) (h : P) : Sz vs P := by
  unfold Sz
  exact ⟨Nat.le_trans (Nat.le_of_ble_eq_true s) (by rw [sizeLine_eq]; decide), h⟩
theorem e_tuple {es : List Expr} {k : Nat} (h : Es c X es l hp fun vs l hp => Sz vs (K (.tup vs) l hp)) : E c X (.Tuple es k p) l hp K := by
  unfold E
  unfold Es Sz at h
  exact fun fx F => evTuple (h fx F)
theorem e_list {es : List Expr} (h : Es c X es l hp fun vs l hp => Sz vs (K (.ref hp.length) l (hp ++ [.list vs]))) : E c X (.List es p) l hp K := by
  unfold E
  unfold Es Sz at h
  exact fun fx F => evList (h fx F)
theorem es_nil {K : List V → Lo → List O → Prop} (h : K [] l hp) : Es c X [] l hp K := by unfold Es; exact fun _ _ => evEs_nil h
theorem es_cons {K : List V → Lo → List O → Prop} {e : Expr} {r : List Expr} (s : noStar e = true) (h : E c X e l hp fun v l hp => Es c X r l hp fun vs l hp => K (v :: vs) l hp) : Es c X (e :: r) l hp K := by
  unfold E Es at *
  exact fun fx F => evEs_cons ((h fx F).mono fun v σ h₁ => h₁ fx F) (star_cons s _)

theorem bin_add {x y : Int} (h : K (.int (x + y)) l hp) : Bin c X .Add (.int x) (.int y) l hp K := by unfold Bin; exact fun _ _ => bin_addT h
theorem bin_sub {x y : Int} (h : K (.int (x - y)) l hp) : Bin c X .Sub (.int x) (.int y) l hp K := by unfold Bin; exact fun _ _ => bin_subT h
theorem bin_mul {x y : Int} (s : Side (x.natAbs < 2 ^ 64 ∨ y.natAbs < 2 ^ 64)) (h : K (.int (x * y)) l hp) : Bin c X .Mult (.int x) (.int y) l hp K := by unfold Bin; exact fun _ _ => bin_mulT s.h h
theorem bin_mod {x y : Int} (s : Side (0 < y)) (h : K (.int (x % y)) l hp) : Bin c X .Mod (.int x) (.int y) l hp K := by unfold Bin; exact fun _ _ => bin_modT s.h h
theorem bin_div {x y : Int} (s : Side (0 < y ∧ y < 2 ^ 30)) (h : K (.int (x / y)) l hp) : Bin c X .FloorDiv (.int x) (.int y) l hp K := by unfold Bin; exact fun _ _ => bin_divT s.h.1 s.h.2 h
theorem bin_pow {x y : Int} (s : Side (0 ≤ y ∧ y ≤ 1000000 ∧ x.natAbs < 2 ^ 64)) (h : K (.int (x ^ y.toNat)) l hp) : Bin c X .Pow (.int x) (.int y) l hp K := by unfold Bin; exact fun _ _ => bin_powT s.h h
theorem bin_pow18 (h : K (.int 1000000000000000000) l hp) : Bin c X .Pow (.int 10) (.int 18) l hp K := bin_pow ⟨by decide⟩ h
theorem bin_lists {i j : Nat} {vs ws : List V} (e : hp[i]? = some (.list vs)) (e' : hp[j]? = some (.list ws)) (s : Side (vs.length + ws.length ≤ sizeLine)) (h : K (.ref hp.length) l (hp ++ [.list (vs ++ ws)])) : Bin c X .Add (.ref i) (.ref j) l hp K := by unfold Bin; exact fun _ _ => bin_listsT e e' s.h h
theorem un_not {v : V} (h : Tru c X v l hp fun b l hp => K (.bool (!b)) l hp) : Un c X .Not v l hp K := by unfold Un; unfold Tru at h; exact fun fx F => un_notT (h fx F)
theorem un_neg {x : Int} (h : K (.int (-x)) l hp) : Un c X .USub (.int x) l hp K := by unfold Un; exact fun _ _ => un_negT h
theorem cmp_lt {x y : Int} (h : K (.bool (decide (x < y))) l hp) : Cmp c X .Lt (.int x) (.int y) l hp K := by unfold Cmp; exact fun _ _ => cmp_ltT h
theorem cmp_gt {x y : Int} (h : K (.bool (decide (y < x))) l hp) : Cmp c X .Gt (.int x) (.int y) l hp K := by unfold Cmp; exact fun _ _ => cmp_gtT h
theorem cmp_le {x y : Int} (h : K (.bool (decide (x ≤ y))) l hp) : Cmp c X .LtE (.int x) (.int y) l hp K := by unfold Cmp; exact fun _ _ => cmp_leT h
theorem cmp_deq {x y : V} {dx dy : PyData} (h1 : Dat hp x dx) (h2 : Dat hp y dy) (h3 : PySem.SeqAt.shaped dx = true) (h4 : PySem.SeqAt.shaped dy = true) (h : K (.bool (PyData.eqv dx dy)) l hp) : Cmp c X .Eq x y l hp K := by unfold Cmp; exact fun fx F => cmp_eqT F.units h1 h2 h3 h4 h
theorem cmp_dne {x y : V} {dx dy : PyData} (h1 : Dat hp x dx) (h2 : Dat hp y dy) (h3 : PySem.SeqAt.shaped dx = true) (h4 : PySem.SeqAt.shaped dy = true) (h : K (.bool (!PyData.eqv dx dy)) l hp) : Cmp c X .NotEq x y l hp K := by unfold Cmp; exact fun fx F => cmp_neT F.units h1 h2 h3 h4 h
theorem eqv_int (x y : Int) : PyData.eqv (.int x) (.int y) = decide (x = y) := by simp [PyData.eqv]; rfl
theorem cmp_eq {x y : Int} (h : K (.bool (decide (x = y))) l hp) : Cmp c X .Eq (.int x) (.int y) l hp K := cmp_deq (.int x) (.int y) rfl rfl (by rw [eqv_int]; exact h)
theorem tru_bool {b : Bool} {K : KB} (h : K b l hp) : Tru c X (.bool b) l hp K := by unfold Tru; exact fun _ _ => tru_boolT h
theorem cb_len_ref {i : Nat} {vs : List V} (e : hp[i]? = some (.list vs)) (s : Side (vs.length < 2 ^ 63)) (h : K (.int vs.length) l hp) : CB c X "len" [.ref i] l hp K := by unfold CB; exact fun _ _ => len_refT e s.h h
theorem cb_len_scr (hc : CxIs c pg sc ns lev qt) (h : K (.int ns.length) l hp) : CB c X "len" [.scr] l hp K := by
  obtain ⟨rfl⟩ := hc
  unfold CB
  exact fun fx F => len_scrT F.all (by rw [F.ns]; exact h)
theorem cb_all {i : Nat} {bs : List Bool} (hc : CxIs c pg sc ns lev true) (e : hp[i]? = some (.list (bs.map .bool))) (h : K (.bool (bs.all id)) l hp) : CB c X "all" [.ref i] l hp K := by
  obtain ⟨rfl⟩ := hc
  unfold CB
  exact fun fx F => (all_any F.all (F.qt rfl) e).1 h
theorem isi_ii {a : Int} (h : K (.bool true) l hp) : CB c X "isinstance" [.int a, .glob (.type "int")] l hp K := by unfold CB; exact fun _ _ => isi_of (fun W s u Q E R r q => by cases r; exact IsiPair.int_int (q _)) h
theorem isi_ib {a : Int} (h : K (.bool false) l hp) : CB c X "isinstance" [.int a, .glob (.type "bool")] l hp K := by unfold CB; exact fun _ _ => isi_of (fun W s u Q E R r q => by cases r; exact IsiPair.int_bool (q _)) h
theorem isi_il {a : Int} (h : K (.bool false) l hp) : CB c X "isinstance" [.int a, .glob (.type "list")] l hp K := by unfold CB; exact fun _ _ => isi_of (fun W s u Q E R r q => by cases r; exact IsiPair.int_list (q _)) h
theorem isi_bi {a : Bool} (h : K (.bool true) l hp) : CB c X "isinstance" [.bool a, .glob (.type "int")] l hp K := by unfold CB; exact fun _ _ => isi_of (fun W s u Q E R r q => by cases r; exact IsiPair.bool_int (q _)) h
theorem isi_bb {a : Bool} (h : K (.bool true) l hp) : CB c X "isinstance" [.bool a, .glob (.type "bool")] l hp K := by unfold CB; exact fun _ _ => isi_of (fun W s u Q E R r q => by cases r; exact IsiPair.bool_bool (q _)) h
theorem isi_ni (h : K (.bool false) l hp) : CB c X "isinstance" [.none, .glob (.type "int")] l hp K := by unfold CB; exact fun _ _ => isi_of (fun W s u Q E R r q => by cases r; exact IsiPair.NoneType_int (q _)) h
theorem isi_nl (h : K (.bool false) l hp) : CB c X "isinstance" [.none, .glob (.type "list")] l hp K := by unfold CB; exact fun _ _ => isi_of (fun W s u Q E R r q => by cases r; exact IsiPair.NoneType_list (q _)) h
theorem isi_si {a : Str} (h : K (.bool false) l hp) : CB c X "isinstance" [.str a, .glob (.type "int")] l hp K := by unfold CB; exact fun _ _ => isi_of (fun W s u Q E R r q => by cases r; exact IsiPair.str_int (q _)) h
theorem isi_sl {a : Str} (h : K (.bool false) l hp) : CB c X "isinstance" [.str a, .glob (.type "list")] l hp K := by unfold CB; exact fun _ _ => isi_of (fun W s u Q E R r q => by cases r; exact IsiPair.str_list (q _)) h
theorem isi_ti {a : List V} (h : K (.bool false) l hp) : CB c X "isinstance" [.tup a, .glob (.type "int")] l hp K := by unfold CB; exact fun _ _ => isi_of (fun W s u Q E R r q => by obtain ⟨_, _, rfl, h2, _⟩ := R.tup_at r; exact isi_tup h2 rfl (by simp) q) h
theorem isi_tl {a : List V} (h : K (.bool false) l hp) : CB c X "isinstance" [.tup a, .glob (.type "list")] l hp K := by unfold CB; exact fun _ _ => isi_of (fun W s u Q E R r q => by obtain ⟨_, _, rfl, h2, _⟩ := R.tup_at r; exact isi_tup h2 rfl (by simp) q) h
theorem isi_rl {i : Nat} {vs : List V} (e : hp[i]? = some (.list vs)) (h : K (.bool true) l hp) : CB c X "isinstance" [.ref i, .glob (.type "list")] l hp K := by unfold CB; exact fun _ _ => isi_of (fun W s u Q E R r q => by obtain ⟨_, _, _, rfl, _, h2, _⟩ := R.list_at e r; exact isi_list h2 rfl (by simp) q) h
theorem isi_ri {i : Nat} {vs : List V} (e : hp[i]? = some (.list vs)) (h : K (.bool false) l hp) : CB c X "isinstance" [.ref i, .glob (.type "int")] l hp K := by unfold CB; exact fun _ _ => isi_of (fun W s u Q E R r q => by obtain ⟨_, _, _, rfl, _, h2, _⟩ := R.list_at e r; exact isi_list h2 rfl (by simp) q) h
theorem cb_append {i : Nat} {vs : List V} {v : V} (e : hp[i]? = some (.list vs)) (s : Side (vs.length ≤ sizeLine)) (h : K .none l (hp.set i (.list (vs ++ [v])))) : CB c X "list.append" [.ref i, v] l hp K := by unfold CB; exact fun _ _ => append_ok e s.h h
theorem ct_int {b : Bool} (h : K (.int (if b then 1 else 0)) l hp) : CT c X "int" [.bool b] l hp K := by unfold CT; exact fun _ _ => intBool_ok h
theorem ct_list_ref {i : Nat} {vs : List V} (e : hp[i]? = some (.list vs)) (s : Side (vs.length ≤ sizeLine)) (h : K (.ref hp.length) l (hp ++ [.list vs])) : CT c X "list" [.ref i] l hp K := by unfold CT; exact fun _ _ => listOf_ok (.inl ⟨_, rfl, e⟩) s.h h

theorem getI_nat {xs : List V} {k : Int} {v : V} (s : 0 ≤ k) (e : xs[k.toNat]? = some v) : getI xs k = some v := by
  unfold getI
  rw [if_pos s]
  exact e
theorem sb_ref {i : Nat} {xs : List V} {k : Int} {v : V} (e : hp[i]? = some (.list xs)) (s : Side (0 ≤ k ∧ k < 2 ^ 63)) (g : xs[k.toNat]? = some v) (h : K v l hp) : Sub c X (.ref i) (.int k) l hp K := by
  unfold Sub
  exact fun _ _ _ _ nsl => sub_list nsl e ⟨by have := s.h; omega, s.h.2⟩ (getI_nat s.h.1 g) h
theorem sb_scr {k : Int} {x : Int} (hc : CxIs c pg sc ns lev qt) (s : Side (0 ≤ k)) (g : ns[k.toNat]? = some x) (h : K (.int x) l hp) : Sub c X .scr (.int k) l hp K := by
  obtain ⟨rfl⟩ := hc
  unfold Sub
  exact fun fx F _ _ nsl => sub_scr F.all nsl s.h (by rw [F.ns]; exact g) h
theorem st_ref {i : Nat} {xs : List V} {k : Int} {v : V} {K : Lo → List O → Prop} (e : hp[i]? = some (.list xs)) (s : Side (0 ≤ k ∧ k < xs.length ∧ k < 2 ^ 63)) (h : K l (hp.set i (.list (xs.set k.toNat v)))) : Set' c X (.ref i) (.int k) v l hp K := by
  unfold Set'
  exact fun _ _ => set_list e s.h.1 s.h.2.1 s.h.2.2 h

theorem b_not {e : Expr} {K : KB} (h : B c X e l hp fun b l hp => K (!b) l hp) : B c X (.UnaryOp .Not e p) l hp K := by
  unfold B at *
  exact fun fx F => evB_not (h fx F)
theorem b_boolop {op : BoolOp} {es : List Expr} {K : KB} (h : BL c X op es l hp K) : B c X (.BoolOp op es p) l hp K := by
  unfold B BL at *
  exact fun fx F => h fx F p
theorem bl_or_nil {K : KB} (h : K false l hp) : BL c X .Or [] l hp K := by unfold BL; exact fun _ _ _ => evB_or_nil h
theorem bl_or {e : Expr} {r : List Expr} {K : KB} (h : B c X e l hp fun b l hp => If b (K true l hp) (BL c X .Or r l hp K)) : BL c X .Or (e :: r) l hp K := by
  unfold B BL If at *
  refine fun fx F pos => evB_or ((h fx F).mono fun b σ h₁ => ?_)
  cases b with
  | true => exact h₁
  | false => exact h₁ fx F pos
theorem b_cmp {a b : Expr} {op : CmpOp} {K : KB} (hm : behindInMarks op b = false) (h : E c X a l hp fun v l hp => E c X b l hp fun w l hp => Cmp c X op v w l hp fun r l hp => Tru c X r l hp K) : B c X (.Compare a [op] [b] p) l hp K := by
  unfold B
  unfold E Cmp Tru at h
  exact fun fx F => evB_cmp1 ((h fx F).mono fun v σ h₁ => (h₁ fx F).mono fun w σ' h₂ => (h₂ fx F).mono fun r σ'' h₃ => h₃ fx F) hm
theorem b_plain {e : Expr} {K : KB} (k : plainT e = true) (h : E c X e l hp fun v l hp => Tru c X v l hp K) : B c X e l hp K := by
  unfold B
  unfold E Tru at h
  exact fun fx F => evB_plain ((h fx F).mono fun v σ h₁ => h₁ fx F) (plainT_of k)
theorem if_b {b : Bool} {P Q : Prop} (h : b = true → P) (h' : b = false → Q) : If b P Q := by
  unfold If
  cases b
  · exact h' rfl
  · exact h rfl
theorem if_t {P Q : Prop} (h : P) : If true P Q := by
  unfold If
  exact h
theorem if_f {P Q : Prop} (h : Q) : If false P Q := by
  unfold If
  exact h
theorem if_decide {P A B : Prop} [d : Decidable P] (h : P → A) (h' : ¬ P → B) : If (decide P) A B := if_b (fun q => h (of_decide_eq_true q)) (fun q => h' (of_decide_eq_false q))
theorem rng1 {b : Int} {P : List V → Prop} (s : Side (-(2 ^ 62) ≤ b ∧ b < 2 ^ 62)) (h : P (rngItems 0 b.toNat)) : Rng [.int b] P := by
  unfold Rng
  exact .inl ⟨b, rfl, s.h, h⟩
theorem i_range {f : Str} {a : Expr} {args : List Expr} {P : KI} (hc : CxIs c pg sc ns lev true) (g : pg.gl f = some (.type "range")) (k : sc.names.lookup f = some .globalImplicit) (st : (a :: args).all noStar = true) (h : Es c X (a :: args) l hp fun vs l hp => Rng vs fun its => P its (fun _ => True) l hp) :
    I c X (.Call (.Name f q) (a :: args) [] p) l hp P := by
  obtain ⟨rfl⟩ := hc
  unfold I
  unfold Es Rng at h
  exact fun fx F => iter_range F.all (F.qt rfl) (by rw [F.pg]; exact g) (by rw [F.kind]; exact k) (F.name k).1 st (h fx F)
theorem i_val {e : Expr} {P : KI} (h : E c X e l hp fun v l hp => Srv c v l hp P) : I c X e l hp P := by
  unfold I
  unfold E Srv at h
  exact fun fx F => iter_val ((h fx F).mono fun v σ h₁ => h₁ fx F)
theorem srv_ref {i : Nat} {its : List V} {P : KI} (hc : CxIs c pg sc ns lev true) (e : hp[i]? = some (.list its)) (h : P its (fun σ' => σ'.hp[i]? = some (.list its)) l hp) : Srv c (.ref i) l hp P := by
  obtain ⟨rfl⟩ := hc
  unfold Srv
  exact fun fx F => srv_refT F.all (F.qt rfl) e h
/-! comprehensions -/
def compCk (sc csc : Scope) (t : Expr) : Bool := compOkB sc csc && nmsOk csc && tgtOk (fun x => csc.names.lookup x == some .local) t
theorem nms_relab {csc : Scope} (h : nmsOk csc = true) : nmsOk (relab csc) = true := by
  unfold nmsOk relab
  rw [List.all_map]
  refine List.all_eq_true.mpr fun y hy => ?_
  have := List.all_eq_true.mp h y hy
  dsimp only [Function.comp]
  split <;> exact this
@[irreducible] def Comp (c : Cx) (elt t : Expr) (ifs : List Expr) (csc : Scope) (its : List V) (need : St → Prop) (l : Lo) (hp : List O) (K : List O → Prop) : Prop :=
  ∃ J, (∀ fx, FxAt c fx → CompJ fx elt t ifs csc its need ⟨l, hp⟩ J) ∧ ∀ hp', J its.length hp' → K hp'
theorem e_comp {elt t iter : Expr} {ifs : List Expr} {csc : Scope} (hc : CxIs c pg sc ns lev true) (ck : compCk sc csc t = true) (ns' : notSet iter = true) (h : I c X iter l hp fun its need l hp => Comp c elt t ifs csc its need l hp fun hp' => K (.ref hp.length) l hp') : E c X (.ListComp elt [⟨t, iter, ifs, 0⟩] csc p) l hp K := by
  obtain ⟨rfl⟩ := hc
  unfold compCk at ck
  simp only [Bool.and_eq_true] at ck
  unfold E
  unfold I Comp at h
  exact fun fx F => evComp F.all (F.qt rfl) (compOk_of F.sc ck.1.1) (folded_of ns' _) ((h fx F).mono fun its need σ ⟨J, h1, h2⟩ => ⟨J, h1 fx F, h2⟩)
theorem s_comp {x : Str} {elt t iter : Expr} {ifs : List Expr} {csc : Scope} {K : KF} (hc : CxIs c pg sc ns lev true) (kx : varOk sc x = true) (ck : compCk sc csc t = true) (ns' : notSet iter = true) (h : I c X iter l hp fun its need l hp => Comp c elt t ifs csc its need l hp fun hp' => K .next (setN l x (.ref hp.length)) hp') : S c X (.Assign [.Name x q] (.ListComp elt [⟨t, iter, ifs, 0⟩] csc r) p) l hp K := by
  obtain ⟨rfl⟩ := hc
  unfold compCk at ck
  simp only [Bool.and_eq_true] at ck
  unfold S
  unfold I Comp at h
  exact fun fx F hL => evAssignComp F.all (F.qt rfl) (isVar_of F hL kx) (compOk_of F.sc ck.1.1) (folded_of ns' _) ((h fx F).mono fun its need σ ⟨J, h1, h2⟩ => ⟨J, h1 fx F, h2⟩)
/-- a comprehension with no test, by a relation -/
theorem comp_gen (hc : CxIs c pg sc ns lev qt) {elt t : Expr} {csc : Scope} {its : List V} {need : St → Prop} {K : List O → Prop} (ck : compCk sc csc t = true) (R : Nat → V → Prop) (hl : its.length ≤ sizeLine) (hneed : ∀ vs : List V, need ⟨l, hp ++ [.list vs]⟩)
    (turn : ∀ (k : Nat) (hk : k < its.length) (vs : List V), vs.length = k → (∀ (j : Nat) (hj : j < vs.length), R j vs[j]) → ∃ bs, tgtV t its[k] = some bs ∧ ∀ c', CxIs c' pg (relab csc) ns lev qt → E c' X0 elt (setAll (compLoc csc l) bs) (hp ++ [.list vs]) (fun v _ hp' => hp' = hp ++ [.list vs] ∧ R k v))
    (fin : ∀ vs : List V, vs.length = its.length → (∀ (j : Nat) (hj : j < vs.length), R j vs[j]) → K (hp ++ [.list vs])) : Comp c elt t [] csc its need l hp K := by
  obtain ⟨rfl⟩ := hc
  unfold compCk at ck
  simp only [Bool.and_eq_true] at ck
  unfold Comp
  refine ⟨fun k hp' => ∃ vs : List V, vs.length = k ∧ (∀ (j : Nat) (hj : j < vs.length), R j vs[j]) ∧ hp' = hp ++ [.list vs], fun fx F => ⟨⟨[], rfl, fun j hj => by simp at hj, rfl⟩, fun k hp' ⟨vs, _, _, e⟩ => e ▸ hneed vs, hl, ?_⟩, fun hp' ⟨vs, e1, e2, e3⟩ => e3 ▸ fin vs e1 e2⟩
  rintro k hp' hk ⟨vs, hv, hR, rfl⟩
  obtain ⟨bs, e, x⟩ := turn k hk vs hv hR
  have co := compOk_of F.sc ck.1.1
  refine ⟨bs, e, fun b hb => by simpa using tgt_ok ck.2 e b hb, fun fc allc e1 e2 e3 e5 e4 => evTs_nil ?_⟩
  have x := x _ ⟨rfl⟩
  unfold E at x
  refine (x fc ⟨allc, e1.trans F.pg, e4.trans (relabel_eq co F.all.ok.kind), e2.trans F.ns, by rw [e3]; exact F.lev, fun z => e5.trans (F.qt z), nms_relab ck.1.2⟩).mono fun v σ ⟨e1, e2⟩ => ?_
  refine ⟨vs, by rw [e1]; simp, by omega, vs ++ [v], by simp [hv], fun j hj => ?_, by rw [e1]; simp⟩
  rcases Nat.lt_or_ge j vs.length with q | q
  · rw [List.getElem_append_left q]
    exact hR j q
  · have : j = vs.length := by simp at hj; omega
    subst this
    simp
    rw [hv]
    exact e2

theorem s_ret {e : Expr} {K : KF} (h : E c X e l hp fun v l hp => K (.ret v) l hp) : S c X (.Return (some e) p) l hp K := by
  unfold S
  unfold E at h
  exact fun fx F _ => evReturn (h fx F)
theorem s_expr {e : Expr} {K : KF} (nc : notComp e = true) (h : E c X e l hp fun _ l hp => K .next l hp) : S c X (.Expr e p) l hp K := by
  unfold S
  unfold E at h
  exact fun fx F _ => evExpr F.all.ok (h fx F) nc
theorem s_asg {x : Str} {e : Expr} {K : KF} (hc : CxIs c pg sc ns lev qt) (nc : notComp e = true) (kx : varOk sc x = true) (h : E c X e l hp fun v l hp => K .next (setN l x v) hp) : S c X (.Assign [.Name x q] e p) l hp K := by
  obtain ⟨rfl⟩ := hc
  unfold S
  unfold E at h
  exact fun fx F hL => evAssignName F.all (isVar_of F hL kx) (h fx F) nc
theorem s_asgS {o i e : Expr} {K : KF} (nc : notComp e = true) (h : E c X e l hp fun v l hp => E c X o l hp fun ov l hp => E c X i l hp fun iv l hp => Set' c X ov iv v l hp fun l hp => K .next l hp) : S c X (.Assign [.Subscript o i q] e p) l hp K := by
  unfold S
  unfold E Set' at h
  exact fun fx F _ => evAssignSub ((h fx F).mono fun v σ h₁ => (h₁ fx F).mono fun ov σ' h₂ => (h₂ fx F).mono fun iv σ'' h₃ => h₃ fx F) nc
theorem s_if {t : Expr} {b o : List Stmt} {K : KF} (h : B c X t l hp fun d l hp => If d (Ss c X b l hp K) (Ss c X o l hp K)) : S c X (.If t b o p) l hp K := by
  unfold S
  unfold B If Ss at h
  refine fun fx F hL => evIf ((h fx F).mono fun d σ h₁ => ?_)
  cases d with
  | true => exact h₁ fx F hL
  | false => exact h₁ fx F hL
theorem ss_nil {K : KF} (h : K .next l hp) : Ss c X [] l hp K := by unfold Ss; exact fun _ _ _ => evSs_nil h
theorem ss_cons {st : Stmt} {r : List Stmt} {K : KF} (h : S c X st l hp fun fl l hp => match fl with | .next => Ss c X r l hp K | f => K f l hp) : Ss c X (st :: r) l hp K := by
  unfold Ss
  unfold S at h
  refine fun fx F hL => evSs_cons ((h fx F hL).mono fun fl σ h₁ => ?_)
  cases fl with
  | next =>
    dsimp only at h₁
    unfold Ss at h₁
    exact h₁ fx F hL
  | _ => exact h₁
theorem ss_asg {ts : List Expr} {e : Expr} {r : List Stmt} {K : KF} (h : S c X (.Assign ts e p) l hp fun fl l hp => match fl with | .next => Ss c X r l hp K | f => K f l hp) : Ss c X (.Assign ts e p :: r) l hp K := ss_cons h
theorem ss_expr {e : Expr} {r : List Stmt} {K : KF} (h : S c X (.Expr e p) l hp fun fl l hp => match fl with | .next => Ss c X r l hp K | f => K f l hp) : Ss c X (.Expr e p :: r) l hp K := ss_cons h
theorem ss_ret {e : Option Expr} {r : List Stmt} {K : KF} (h : S c X (.Return e p) l hp fun fl l hp => match fl with | .next => Ss c X r l hp K | f => K f l hp) : Ss c X (.Return e p :: r) l hp K := ss_cons h
theorem ss_raise {a b : Option Expr} {r : List Stmt} {K : KF} (h : S c X (.Raise a b p) l hp fun fl l hp => match fl with | .next => Ss c X r l hp K | f => K f l hp) : Ss c X (.Raise a b p :: r) l hp K := ss_cons h
theorem ss_if {t : Expr} {b o r : List Stmt} {K : KF} (h : B c X t l hp fun d l hp => If d (Ss c X b l hp (fun fl l hp => match fl with | .next => Ss c X r l hp K | f => K f l hp)) (Ss c X o l hp (fun fl l hp => match fl with | .next => Ss c X r l hp K | f => K f l hp))) : Ss c X (.If t b o p :: r) l hp K := ss_cons (s_if h)
theorem s_mono {st : Stmt} {K K' : KF} (h : S c X st l hp K) (hk : ∀ fl l hp, K fl l hp → K' fl l hp) : S c X st l hp K' := by
  unfold S at *
  exact fun fx F hL => (h fx F hL).mono fun _ _ x => hk _ _ _ x
theorem ss_cut {st : Stmt} {rest : List Stmt} {K : KF} (P : Lo → List O → Prop) (h1 : S c X st l hp (fun fl l hp => fl = .next ∧ P l hp)) (h2 : ∀ l hp, P l hp → Ss c X rest l hp K) : Ss c X (st :: rest) l hp K :=
  ss_cons (s_mono h1 fun fl l hp ⟨e, x⟩ => by subst e; exact h2 l hp x)
theorem s_for {t iter : Expr} {b : List Stmt} {K : KF} (hc : CxIs c pg sc ns lev true) (tk : tgtOk (varOk sc) t = true) (ns' : notSet iter = true)
    (h : I c X iter l hp fun its need l hp => ∃ J : Nat → Lo → List O → Prop, J 0 l hp ∧ (∀ k l hp, J k l hp → need ⟨l, hp⟩) ∧
      (∀ (k : Nat) (hk : k < its.length) l hp, J k l hp → ∃ bs, tgtV t its[k] = some bs ∧ Ss c X b (setAll l bs) hp fun fl l hp => match fl with | .next | .cont => J (k + 1) l hp | .brk => K .next l hp | .ret v => K (.ret v) l hp) ∧
      ∀ l hp, J its.length l hp → K .next l hp) : S c X (.For t iter b [] p) l hp K := by
  obtain ⟨rfl⟩ := hc
  unfold S
  unfold I at h
  refine fun fx F hL => evFor F.all hL ((h fx F).mono fun its need σ ⟨J, h1, h2, h3, h4⟩ => ⟨fun k σ => J k σ.loc σ.hp, h1, fun k σ x => h2 k σ.loc σ.hp x, fun k σ' hk hJ ps al => ?_, fun σ x => h4 _ _ x⟩) (folded_of ns' _)
  obtain ⟨bs, e, y⟩ := h3 k hk σ'.loc σ'.hp hJ
  have Fp := F.push al
  unfold Ss at y
  refine asgT_of al (F.qt rfl) e (fun b hb => isVar_of Fp hL (tgt_ok tk e b hb)) ((y _ Fp hL).mono fun fl σ₂ z => ?_)
  cases fl <;> exact z
theorem tgt1 {x : Str} {v : V} : tgtV (.Name x p) v = some [(x, v)] := rfl
theorem s_for1 {x : Str} {iter : Expr} {b : List Stmt} {K : KF} (hc : CxIs c pg sc ns lev true) (tk : tgtOk (varOk sc) (.Name x q) = true) (ns' : notSet iter = true)
    (h : I c X iter l hp fun its need l hp => ∃ J : Nat → Lo → List O → Prop, J 0 l hp ∧ (∀ k l hp, J k l hp → need ⟨l, hp⟩) ∧
      (∀ (k : Nat) (hk : k < its.length) l hp, J k l hp → Ss c X b (setN l x its[k]) hp fun fl l hp => match fl with | .next | .cont => J (k + 1) l hp | .brk => K .next l hp | .ret v => K (.ret v) l hp) ∧
      ∀ l hp, J its.length l hp → K .next l hp) : S c X (.For (.Name x q) iter b [] p) l hp K := by
  refine s_for hc tk ns' ?_
  unfold I at *
  exact fun fx F => (h fx F).mono fun its need σ ⟨J, h1, h2, h3, h4⟩ => ⟨J, h1, h2, fun k hk l hp x => ⟨_, tgt1, h3 k hk l hp x⟩, h4⟩
/-! exceptions -/
theorem s_raise {x : Str} {C : Addr} {e₀ : Expr} {rest : List Expr} {K : KF} (hc : CxIs c pg sc ns lev true) (g : pg.gl x = some (.ref C)) (g1 : nsIn pg.K mainGlobals x = some (some (.ref C))) (g2 : excIn pg.K C veMro "ValueError.__new__" = true) (k : sc.names.lookup x = some .globalImplicit) (st : (e₀ :: rest).all noStar = true)
    (h : Es c X (e₀ :: rest) l hp fun vs l hp => Sz vs (X (.ref C) ⟨l, hp⟩)) : S c X (.Raise (some (.Call (.Name x q) (e₀ :: rest) [] r)) none p) l hp K := by
  obtain ⟨rfl⟩ := hc
  unfold S
  unfold Es Sz at h
  exact fun fx F _ => evRaise F.all (F.qt rfl) (by rw [F.pg]; exact g) (by rw [F.pg]; exact g1) (by rw [F.pg]; exact g2) (by rw [F.kind]; exact k) (F.name k).1 st (h fx F)
theorem s_try {b : List Stmt} {h₀ : ExceptHandler} {hs : List ExceptHandler} {K : KF} (h : Ss c (fun cls σ => Hd c X (h₀ :: hs) cls σ.loc σ.hp K) b l hp K) : S c X (.Try b (h₀ :: hs) [] [] p) l hp K := by
  unfold S
  unfold Ss at h
  exact fun fx F hL => evTry F.all hL (h fx F hL) fun cls σ' hX => by unfold Hd at hX; exact hX fx F hL
theorem fxH_at {fx : Fx} (F : FxAt c fx) (e : Addr) : FxAt { c with qt := false } (fxH fx e) := ⟨fxH_all F.all e, F.pg, F.sc, F.ns, F.lev, fun z => (by cases z), F.nk⟩
theorem hd_hit1 {y z : Str} {b₀ : Stmt} {suite : List Stmt} {r : List ExceptHandler} {C : Addr} {cv : Value} {K : KF} (hc : CxIs c pg sc ns lev qt) (g : pg.gl y = some cv) (e : exmOne pg.K (.ref C) cv = some true) (k : sc.names.lookup y = some .globalImplicit) (kz : sc.names.lookup z = some .local)
    (h : ∀ c', CxIs c' pg sc ns lev false → Ss c' X0 (b₀ :: suite) (setN l z (.ref hp.length)) (hp ++ [.exn C]) (fun fl l hp => K fl (fun y => if y = z then none else l y) hp)) :
    Hd c X (.ExceptHandler (some (.Name y q)) (some z) (b₀ :: suite) p :: r) (.ref C) l hp K := by
  obtain ⟨rfl⟩ := hc
  have h := h _ ⟨rfl⟩
  unfold Ss at h
  unfold Hd
  exact fun fx F hL => evH_hit1 F.all (by rw [F.pg]; exact g) (by rw [F.kind]; exact k) (F.name k).1 (by rw [F.pg]; exact e) hL (by rw [F.kind]; exact kz) fun a => h _ (fxH_at F a) hL
end
end Mine

set_option autoImplicit false
namespace Mine
open PySem PySem.W PySem.Calls PySem.Spec PyProof.Rows

/-! a loop over a zip of two lists -/
section
variable {fx : Fx} {X : XP} {σ : St} {W : Wd} {s : Shared}
end
section
variable {c : Cx} {X : XP} {l : Lo} {hp : List O} {p q r : Pos} {pg : Pg} {sc : Scope} {ns : List Int} {lev : Nat}
end
end Mine

set_option autoImplicit false
namespace Mine
open PySem PySem.W PySem.Calls PySem.Spec PyProof.Rows

theorem law_run {pg : Pg} {s₁ : Shared} {law : Str} {f fa a : Addr} {x : Str} {body : List Stmt} {scope : Scope} {vals : List Value} {ns : List Int} {R : Result → Shared → Prop}
    (T : Top pg.p pg.loose pg.mean pg.mg pg.mb s₁.heap) (KX : pg.K.In s₁.heap) (hgl : nsIn pg.K mainGlobals law = some (some (.ref f))) (hmg : pg.mg law = some (.ref fa)) (D : FnAt pg f [x] body scope) (nk : nmsOk scope = true)
    (hL : s₁.heap.IsList a vals.toArray) (hI : IntsAre vals ns) (hn : ns.length ≤ 63)
    (h : ∀ fx, FxAt ⟨pg, scope, ns, 600, true⟩ fx → fx.env.locals = fx.L → EvSs fx X0 body ⟨bindV [x] [.scr] (fun _ => none), []⟩ (fun fl _ => fl = .ret (.bool true)))
    (hR : ∀ s' m', Fr s₁.heap s₁.heap.objs.size s'.heap m' → s'.gens = s₁.gens → s'.os = s₁.os → R (.ok (.ret (.bool true))) s') :
    codeAny (model pg.prog pg.w) callerA (.call (.ref fa) ⟨[.ref a], []⟩) R s₁ := by
  have e := mg_of KX T.g hgl
  rw [hmg] at e
  cases e
  obtain ⟨name, qual, params, dV, kV, doc, pm, an, cdv, ct, oc, od, osl, ho, hcd, hbind⟩ := D.data
  have hb := hbind [.ref a] rfl
  refine codeAny_call_function (by decide) (KX _ _ ho) rfl D.hco D.hgen rfl (codeRec_of KX hcd) ((BindsTo.of_eq hb) _ _ _ _ ?_)
  refine wpAny_newFunctionEnv_cells D.hk (fun y hy => ?_) fun env' he s' x' => ?_
  · have hx' : y.1 ∈ [x] := (List.of_mem_zip (a := y.1) (b := y.2) hy).1
    rcases D.kinds y.1 hx' with q | q
    · exact .inl q
    · exact .inr ⟨q, cf_some _ _ _ (.inl q)⟩
  subst he
  refine ⟨T.nolimit.keeps x'.toInCall.keep, codeAny_func ?_⟩
  obtain ⟨h₁, tk, rfl, _⟩ := x'.done
  have hk₁ := x'.toInCall.keep
  obtain ⟨cells, N, Y⟩ := Cl.news (h₀ := s₁.heap) (Nat.le_refl _) fun n c hm => ⟨x'.cell n c (lookup_of_mem_nodup (cellsFrom_names scope.names 0 (s₁.heap.objs.size + 1) [] [] rfl ▸ D.cells) hm), x'.above n c hm⟩
  let L' := s₁.heap.objs.size
  have keysC := cellsAre_keys Y
  have cfa := cf_addr scope.names (L' + 1) (L' + 1) [] (Nat.le_refl _) (by simp) (fun p hp => by cases hp)
  have cellAt : ∀ y c, (cellsFrom (L' + 1) scope.names []).lookup y = some c → ∃ o, (c, o) ∈ cells ∧ o.data = .cell (bindC (envOfC qual scope L' f cdv).kindOf ([x].zip [.ref a]) (fun _ => none) y) := fun y c h => cellsAre_at Y (lookup_mem h)
  have F' : Fr s₁.heap L' h₁ (bindL (envOfC qual scope L' f cdv).kindOf ([x].zip [.ref a]) fun _ => none) := ⟨x'.toInCall.ns, hk₁, Nat.le_refl _⟩
  let fx : Fx := { pg := pg, A := callerA.deeper (envOfC qual scope L' f cdv), env := envOfC qual scope L' f cdv, fenv := envOfC qual scope L' f cdv, outer := [], A₀ := callerA, base := s₁.heap, h₀ := s₁.heap, L := L',
                   ex := [], s₀ := s₁, sc := a, ns := ns, lev := 600, mfix := none, qt := true }
  have all : FxAll fx := {
    ok := ⟨D.hk, fun _ => rfl⟩
    locs := .inl rfl
    cex := fun _ x c h p hp => by cases hp
    cinj := fun x y c h h' => snd_inj cfa.1 (lookup_mem h) (lookup_mem h')
    cdef := fun x h q => by
      have := cf_some (x := x) scope.names (L' + 1) [] (.inl h)
      rw [show (cellsFrom (L' + 1) scope.names []).lookup x = none from q] at this
      cases this
    scr := by
      obtain ⟨o, h1, h2, n, h3⟩ := hL
      exact ⟨vals, n, o, h1, h2, h3, hI, Nat.lt_of_le_of_lt hn (by decide)⟩
    egl := rfl
    ebu := rfl
    top := T
    part := KX
    below := below_caller _
    dicts := ktsDicts_nil
    frs := rfl
    ffr := rfl
    fkd := D.hk
    depth := by show 1 + claimMargin + 1 + 600 < recursionLimit; decide
    room := by show 4 + 3 + 8 * 600 + 100 < cLine; decide
    mfn := fun _ => rfl
    envf := fun _ => rfl }
  have R' : Rep fx ⟨bindV [x] [.scr] (fun _ => none), []⟩ ⟨[], [], a⟩ { s₁ with heap := h₁, toks := tk } := by
    refine ⟨rfl, _, _, cells, .refl, F', N, ⟨?_, ?_, ?_, List.nodup_nil, rfl, ?_, ?_, fun y v h => ?_, fun y c h => ?_, rfl, ?_, ?_⟩⟩
    · rw [keysC]; exact cfa.1
    · intro p hp; cases hp
    · intro p hp; cases hp
    · intro i o h; simp at h
    · intro t ht; cases ht
    · obtain ⟨u, h1, h2⟩ := bind_rel (W := ⟨[], [], a⟩) (xs := [x]) (vs := [.scr]) (us := [.ref a]) (kindOf := (envOfC qual scope L' f cdv).kindOf) (.cons .scr .nil) D.kinds (fun _ => none) (fun _ => none) (fun _ => none) (fun y v h => by cases h) y v h
      refine ⟨u, h1, ?_⟩
      rcases h2 with ⟨k1, k2⟩ | ⟨k1, k2⟩
      · exact .loc k1 rfl k2
      · have hs := cf_some (x := y) scope.names (L' + 1) [] (.inl k1)
        obtain ⟨c, hc⟩ := Option.isSome_iff_exists.mp hs
        obtain ⟨o, ho, hd⟩ := cellAt y c hc
        exact .cell (.inl k1) hc ho (by rw [hd, k2])
    · obtain ⟨o, ho, hd⟩ := cellAt y c h
      exact ⟨List.not_mem_nil, o, _, ho, hd⟩
    · intro _ q; cases q
    · intro p hp; cases hp
  refine wpAny_mono (h fx ⟨all, rfl, rfl, rfl, Nat.le_refl _, fun _ => rfl, nk⟩ rfl _ _ R') ?_ fun _ _ x => x.never.elim
  rintro fl s' ⟨W', σ', fl', le', ⟨er, g', m', news', G'', F₁, _, _⟩, r'', rfl⟩
  have F'' : Fr s₁.heap s₁.heap.objs.size s'.heap m' := ⟨F₁.ns, fun b o e => F₁.keep b o (G''.other b o e (by simp [fx])), Nat.le_refl _⟩
  cases r'' with
  | ret r =>
    cases r
    exact hR s' m' F'' (by rw [er]) (by rw [er])

end Mine

set_option autoImplicit false
namespace Mine
open PySem PySem.W PySem.Calls PySem.Spec PyProof.Rows
open PySem.Builtin PySem.Builtin.ObjectAttr PySem.Builtin.Getset_descriptor

/-! isinstance of an exception of an own class -/
def XcAt (x D : Addr) (h : Heap) : Prop := ∃ ob, h.get? x = some ob ∧ ob.cls = .ref D
section
variable {prog : Program} {w : World} {A : Around} {E : Value → Shared → Prop} {s : Shared} {K : Frag} {x D : Addr}
theorem xc_type {M : Model} {h : Heap} (I : XcAt x D h) : Looks M h (typeOf (.ref x)) (.ref D) := by
  obtain ⟨ob, h1, h2⟩ := I
  exact h2 ▸ (Looks.ld h1).andThen .now

theorem xc_get {R : Result → Shared → Prop} {tp : Value} (X : K.In s.heap) (I : XcAt x D s.heap) (hm : mroIn K D (.type "object") = some true)
    (h : R (.ok (.ret (.ref D))) s) : codeAny (model prog w) A (.call (.builtin "getset_descriptor.__get__") ⟨[.builtin "object.__class__", .ref x, tp], []⟩) R s := by
  obtain ⟨hh, g, dr, t, os⟩ := s
  have L0 := xc_type (M := model prog w) I
  have L1 := looks_mroIn (M := model prog w) X hm
  refine codeAny_call_builtin KF.slot_gs.plain KF.entry_gs (KF.slot_gs.check _ _ _ _ _ _ _ _ KF.type_class (KF.args_gs _ _ _) ?_)
  unfold Builtin.«getset_descriptor.__get__» descrGet
  rw [dga_obj]
  refine wpAny_bind (wpAny_pure ?_)
  unfold descrGetter descrCheckInstance descrNameAndClass isInstance
  simp only [KF.owner_class]
  repeat lk
  refine ⟨Code.quiet_builtin _ (by decide +kernel), codeAny_builtin KF.entry_class ?_⟩
  unfold Builtin.«object.__class__» shownTypeOf
  repeat lk
  exact h

theorem xc_class {Q : Option Value → Shared → Prop} (hga : findIn K (.ref D) "__getattribute__" = some (some (.builtin "BaseException.__getattribute__"))) (hgh : findIn K (.ref D) "__getattr__" = some none)
    (ha : findIn K (.ref D) "__class__" = some (some (.builtin "object.__class__")))
    (hn : specialIn K (.builtin "object.__class__") "__get__" = some (some (.builtin "getset_descriptor.__get__"))) (htk : takesIn K (.builtin "object.__class__") = some true) (hm : mroIn K D (.type "object") = some true) (hb : mroIn K D (.type "BaseException") = some true)
    (X : K.In s.heap) (I : XcAt x D s.heap) (h : Q (some (.ref D)) { s with toks := s.toks + 1 }) : wpAny (model prog w) A (getAttr? (.ref x) "__class__") Q E s := by
  obtain ⟨hh, g, d, t, os⟩ := s
  have L0 := xc_type (M := model prog w) I
  have L1 := looks_findIn (M := model prog w) X hga
  have L2 := looks_findIn (M := model prog w) X hgh
  have LB := looks_mroIn (M := model prog w) X hb
  have LF : Looks (model prog w) hh (find (.ref x) (.ref D) "__class__") (.bind (.builtin "getset_descriptor.__get__") (.builtin "object.__class__")) := by
    refine (looks_findIn (M := model prog w) X ha).andThen ((show Looks _ _ (getOf (some (.builtin "object.__class__"))) _ from looks_specialIn X hn).andThen ?_)
    exact (show Looks _ _ (dataDescriptor? (some (.builtin "object.__class__")) (some (.builtin "getset_descriptor.__get__"))) (some (.builtin "getset_descriptor.__get__", .builtin "object.__class__")) from (looks_takesIn X htk).andThen .now).andThen (Looks.tag .now)
  unfold getAttr? getAttrBy? getAttrBy
  refine wpAny_bind (wpAny_mkText (wpAny_bind (wpAny_attempt (wpAny_holding (wpAny_bind (L0.at (wpAny_bind (L1.at ?_))))))))
  show wpAny _ _ (getAttrByItsOwn _ _ _ _ _ _) _ _ _
  unfold getAttrByItsOwn
  refine wpAny_bind (L2.at ?_)
  refine wpAny_bind (wpAny_attempt (wpAny_holding ?_))
  show wpAny _ _ (boundAndCalled _ _ _) _ _ _
  unfold boundAndCalled
  rw [F.excAttr_ValueError.ga.bind]
  refine wpAny_bind (wpAny_pure ?_)
  refine wpAny_call (codeAny_call_builtin F.excAttr_ValueError.ga.plain F.entry_bexc_ga ?_)
  have hk : builtinKind "BaseException.__getattribute__" = some .slot := by decide +kernel
  have hsplit : splitId "BaseException.__getattribute__" = some ("BaseException", "__getattribute__") := by decide +kernel
  have hargs := F.args_bexc_ga (.ref x) (.str "__class__" t)
  simp only [checkBuiltinCall, hk, hsplit]
  have LI : Looks (model prog w) hh (isInstance (.ref x) (.type "BaseException")) true := L0.andThen LB
  refine wpAny_bind (LI.at ?_)
  unfold Builtin.«object.__getattribute__»
  repeat (first | exact hargs | lk)
  refine wpAny_run (codeAny_mono (xc_get (s := ⟨hh, g, d, t + 1, os⟩) (R := fun r s' => r = .ok (.ret (.ref D)) ∧ s' = ⟨hh, g, d, t + 1, os⟩) X I hm ⟨rfl, rfl⟩) ?_)
  rintro _ _ ⟨rfl, rfl⟩
  exact wpAny_pure (wpAny_pure (wpAny_pure (wpAny_pure h)))
end

structure XcFacts (K : Frag) (D : Addr) : Prop where
  ga : findIn K (.ref D) "__getattribute__" = some (some (.builtin "BaseException.__getattribute__"))
  gh : findIn K (.ref D) "__getattr__" = some none
  ca : findIn K (.ref D) "__class__" = some (some (.builtin "object.__class__"))
  gs : specialIn K (.builtin "object.__class__") "__get__" = some (some (.builtin "getset_descriptor.__get__"))
  tk : takesIn K (.builtin "object.__class__") = some true
  ob : mroIn K D (.type "object") = some true
  be : mroIn K D (.type "BaseException") = some true
theorem kitx_exc {K : Frag} {x D : Addr} (f : XcFacts K D) : KitX K (.ref x) (.ref D) (XcAt x D) := by
  obtain ⟨cd, hcd, _⟩ := Option.bind_eq_some_iff.mp f.ob
  refine ⟨fun _ _ _ I => xc_type I, fun _ _ X _ => ?_, fun h tp dd its n sl X htp => ?_, fun X I k => xc_class f.ga f.gh f.ca f.gs f.tk f.ob f.be X I k⟩
  · unfold clsIn at hcd
    split at hcd
    · rename_i ho
      intro A' Q' E' s' k q
      unfold isType loadHead
      exact wpAny_bind (wpAny_loadPart (k _ _ (X _ _ ho)) (wpAny_pure q))
    · cases hcd
  · refine Bool.eq_false_iff.mpr fun q => ?_
    have e : D = tp := Value.ref.inj (beq_iff_eq.mp q)
    subst e
    unfold clsIn at hcd
    split at hcd
    · rename_i ho
      have z := (X _ _ ho).symm.trans htp
      cases z
    · cases hcd
theorem Rep.exn_at {fx : Fx} {σ : St} {W : Wd} {s : Shared} (R : Rep fx σ W s) {i : Nat} {D : Addr} {u : Value} (ho : σ.hp[i]? = some (.exn D)) (r : VR W (.ref i) u) : ∃ a, u = .ref a ∧ XcAt a D s.heap := by
  refine R.elim fun _ g m news G F N C => ?_
  obtain ⟨a, ob, h1, h2, h3⟩ := C.obs i _ ho
  cases r with
  | ref e =>
    rw [h1] at e
    cases e
    cases h3 with
    | exn q _ => exact ⟨a, rfl, _, (N _ h2).1, q⟩
theorem isi_exn {c : Cx} {X : XP} {l : Lo} {hp : List O} {K : KV} {pg : Pg} {sc : Scope} {ns : List Int} {lev : Nat} {qt : Bool} {i : Nat} {D : Addr} {v : Value} {b : Bool} (hc : CxIs c pg sc ns lev qt) (e : hp[i]? = some (.exn D)) (f : XcFacts pg.K D) (k : kitOne pg.K (.ref D) v = some b)
    (h : K (.bool b) l hp) : CB c X "isinstance" [.ref i, .glob v] l hp K := by
  obtain ⟨rfl⟩ := hc
  unfold CB
  intro fx F W s us R r
  have X' := F.all.part.keeps (F.all.stays R)
  rw [F.pg] at X'
  cases r with
  | cons r₁ r =>
    cases r with
    | cons r₂ r =>
      cases r; cases r₂
      obtain ⟨a, rfl, I⟩ := R.exn_at e r₁
      exact kia_one (kitx_exc f) X' I k (by intro q; cases q) fun tk => .here (R.toks tk) (.bool _) h
theorem s_try1 {c : Cx} {X : XP} {l : Lo} {hp : List O} {p : Pos} {b : List Stmt} {h₀ : ExceptHandler} {hs : List ExceptHandler} {K : KF} (D : Value) (P : Lo → List O → Prop) (h1 : ∀ X' : XP, (∀ l hp, P l hp → X' D ⟨l, hp⟩) → Ss c X' b l hp K)
    (h2 : ∀ l hp, P l hp → Hd c X (h₀ :: hs) D l hp K) : S c X (.Try b (h₀ :: hs) [] [] p) l hp K := s_try (h1 _ h2)
end Mine

set_option autoImplicit false
namespace Mine
open PySem PySem.W PySem.Calls PySem.Spec PyProof.Rows

/-! a list times a number; the least of a list -/
section
variable {fx : Fx} {X : XP} {σ : St} {W : Wd} {s : Shared}
end
section
variable {c : Cx} {X : XP} {l : Lo} {hp : List O} {K : KV}
end
end Mine

set_option autoImplicit false
namespace Mine
open PySem PySem.W PySem.Calls PySem.Spec PyProof.Rows

theorem fn1 {α : Type} {P : List α → Prop} (h : ∀ a, P [a]) : ∀ us : List α, us.length = 1 → P us
  | [a], _ => h a
theorem fn2 {α : Type} {P : List α → Prop} (h : ∀ a b, P [a, b]) : ∀ us : List α, us.length = 2 → P us
  | [a, b], _ => h a b
theorem fnAt_of {pg : Pg} {f : Addr} {xs : List Str} {name qual : Str} {params : Arguments} {body : List Stmt} {scope : Scope} {dV kV doc pm an cdv ct oc od osl} (h1 : pg.K.lookup f = some ⟨oc, od, .func (fnOf name qual params body scope dV kV doc pm an cdv ct), osl⟩) (h2 : codeIn pg.K cdv qual = true)
    (h3 : ∀ us : List Value, us.length = xs.length → bindArgs (fnOf name qual params body scope dV kV doc pm an cdv ct) ⟨us, []⟩ = pure (xs.zip us)) (h4 : ∀ x ∈ xs, scope.names.lookup x = some .local ∨ scope.names.lookup x = some .cell)
    (h5 : ((cellsFrom 0 scope.names []).map (·.1)).Nodup) (h6 : scope.isCoroutine = false) (h7 : scope.isGenerator = false) (h8 : scope.kind = .function) : FnAt pg f xs body scope :=
  ⟨⟨name, qual, params, dV, kV, doc, pm, an, cdv, ct, oc, od, osl, h1, h2, h3⟩, h4, h5, h6, h7, h8⟩
/-- a def, by its rules -/
theorem fn_run {pg : Pg} {f : Addr} {xs : List Str} {body : List Stmt} {scope : Scope} (D : FnAt pg f xs body scope) {lev : Nat} {qt : Bool} {ns : List Int} {vs : List V} {hp : List O} {X : Value → List O → Prop} {Q : V → List O → Prop} (hl : vs.length = xs.length) (hok : nmsOk scope = true)
    (h : ∀ c, CxIs c pg scope ns lev qt → Ss c (fun d σ => X d σ.hp) body (bindV xs vs fun _ => none) hp (fun fl _ hp' => Q (retV fl) hp')) : CallOK pg (lev + 1) qt ns f vs hp X Q := by
  have h := h _ ⟨rfl⟩
  unfold Ss at h
  exact callOK_of D hl fun fx F hpg hns hlev hqt hsc hL => h fx ⟨F, hpg, hsc, hns, Nat.le_of_eq hlev.symm, hqt, hok⟩ hL


/-- the law, by its rules -/
theorem law_go {pg : Pg} {s₁ : Shared} {law : Str} {f fa a : Addr} {x : Str} {body : List Stmt} {scope : Scope} {vals : List Value} {ns : List Int} {R : Result → Shared → Prop}
    (T : Top pg.p pg.loose pg.mean pg.mg pg.mb s₁.heap) (KX : pg.K.In s₁.heap) (hmg : pg.mg law = some (.ref fa)) (hL : s₁.heap.IsList a vals.toArray) (hI : IntsAre vals ns) (hn : ns.length ≤ 63) (hgl : nsIn pg.K mainGlobals law = some (some (.ref f))) (D : FnAt pg f [x] body scope) (hok : nmsOk scope = true)
    (hR : ∀ s' m', Fr s₁.heap s₁.heap.objs.size s'.heap m' → s'.gens = s₁.gens → s'.os = s₁.os → R (.ok (.ret (.bool true))) s')
    (h : ∀ c, CxIs c pg scope ns 600 true → Ss c X0 body (bindV [x] [.scr] fun _ => none) [] (fun fl _ _ => fl = .ret (.bool true))) :
    codeAny (model pg.prog pg.w) callerA (.call (.ref fa) ⟨[.ref a], []⟩) R s₁ := by
  have h := h _ ⟨rfl⟩
  unfold Ss at h
  exact law_run T KX hgl hmg D hok hL hI hn (fun fx F hL => h fx F hL) hR


theorem lay_ints : ∀ ns : List Int, PyData.canLayAll0 (ns.map .int) = true ∧ PyData.depthAll (ns.map .int) ≤ 1
  | [] => ⟨by simp [PyData.canLayAll0], by simp [PyData.depthAll]⟩
  | n :: r => by
    have := lay_ints r
    simp [PyData.canLayAll0, PyData.depthAll, PyData.canLay0, PyData.depth, this.1] at *
    omega
theorem shaped_ints (ns : List Int) : PySem.SeqAt.shaped (.list (ns.map .int)) = true := by
  have := lay_ints ns
  simp [PySem.SeqAt.shaped, PyData.canLay0, PyData.depth, this.1]
  omega
section
variable {c : Cx} {X : XP} {l : Lo} {hp : List O} {K : KV}
theorem cmp_ints_eq {i j : Nat} {xs ys : List Int} (h1 : hp[i]? = some (.list (xs.map .int))) (h2 : hp[j]? = some (.list (ys.map .int))) (h : K (.bool (decide (xs = ys))) l hp) : Cmp c X .Eq (.ref i) (.ref j) l hp K :=
  cmp_deq (.list h1 (dats_ints hp xs)) (.list h2 (dats_ints hp ys)) (shaped_ints xs) (shaped_ints ys) (by rw [show PyData.eqv (.list (xs.map .int)) (.list (ys.map .int)) = decide (xs = ys) by rw [PyData.eqv]; exact ked_eqvAll xs ys]; exact h)
theorem cmp_ints_ne {i j : Nat} {xs ys : List Int} (h1 : hp[i]? = some (.list (xs.map .int))) (h2 : hp[j]? = some (.list (ys.map .int))) (h : K (.bool (!decide (xs = ys))) l hp) : Cmp c X .NotEq (.ref i) (.ref j) l hp K :=
  cmp_dne (.list h1 (dats_ints hp xs)) (.list h2 (dats_ints hp ys)) (shaped_ints xs) (shaped_ints ys) (by rw [show PyData.eqv (.list (xs.map .int)) (.list (ys.map .int)) = decide (xs = ys) by rw [PyData.eqv]; exact ked_eqvAll xs ys]; exact h)
end
end Mine

set_option autoImplicit false
namespace Mine
open PySem PySem.W PySem.Calls PySem.Spec PyProof.Rows

/-- a value of the plain kinds -/
def Plain (hp : List O) : V → Prop
  | .int _ | .bool _ | .str _ | .none | .tup _ => True
  | .ref j => ∃ ys, hp[j]? = some (.list ys)
  | _ => False

section
variable {c : Cx} {X : XP} {l : Lo} {hp : List O} {K : KV} {p q : Pos} {pg : Pg} {sc : Scope} {ns : List Int} {lev : Nat} {qt : Bool}

theorem sb_all {i : Nat} {vs : List V} {k : Int} (e : hp[i]? = some (.list vs)) (s : Side (0 ≤ k ∧ k < vs.length ∧ vs.length < 2 ^ 62)) (h : ∀ v ∈ vs, K v l hp) : Sub c X (.ref i) (.int k) l hp K := by
  have hk : k.toNat < vs.length := by have := s.h; omega
  exact sb_ref e ⟨by have := s.h; omega⟩ (List.getElem?_eq_getElem hk) (h _ (List.getElem_mem hk))
theorem ints_of {R : Nat → Int → Prop} : ∀ {vs : List V}, (∀ (j : Nat) (hj : j < vs.length), ∃ x, vs[j] = .int x ∧ R j x) → ∃ ys : List Int, vs = ys.map .int ∧ ∀ (j : Nat) (hj : j < ys.length), R j ys[j] := by
  intro vs
  induction vs generalizing R with
  | nil => intro _; exact ⟨[], rfl, fun j hj => by simp at hj⟩
  | cons v vs ih =>
    intro h
    obtain ⟨x, e, r⟩ := h 0 (by simp)
    obtain ⟨ys, e', r'⟩ := ih (R := fun j => R (j + 1)) fun j hj => h (j + 1) (Nat.succ_lt_succ hj)
    simp at e
    subst e; subst e'
    refine ⟨x :: ys, rfl, fun j hj => ?_⟩
    cases j with
    | zero => exact r
    | succ j => exact r' j (Nat.lt_of_succ_lt_succ hj)
/-- the same, of numbers -/
theorem comp_ints (hc : CxIs c pg sc ns lev qt) {elt t : Expr} {csc : Scope} {its : List V} {need : St → Prop} {K : List O → Prop} (ck : compCk sc csc t = true) (R : Nat → Int → Prop) (hl : its.length ≤ sizeLine) (hneed : ∀ vs : List V, need ⟨l, hp ++ [.list vs]⟩)
    (turn : ∀ (k : Nat) (hk : k < its.length) (vs : List V), vs.length = k → ∃ bs, tgtV t its[k] = some bs ∧ ∀ c', CxIs c' pg (relab csc) ns lev qt → E c' X0 elt (setAll (compLoc csc l) bs) (hp ++ [.list vs]) (fun v _ hp' => hp' = hp ++ [.list vs] ∧ ∃ x, v = .int x ∧ R k x))
    (fin : ∀ ys : List Int, ys.length = its.length → (∀ (j : Nat) (hj : j < ys.length), R j ys[j]) → K (hp ++ [.list (ys.map .int)])) : Comp c elt t [] csc its need l hp K :=
  comp_gen hc ck (fun k v => ∃ x, v = .int x ∧ R k x) hl hneed (fun k hk vs hv _ => turn k hk vs hv) fun vs hv hR => by
    obtain ⟨ys, rfl, r⟩ := ints_of hR
    exact fin ys (by simpa using hv) r
theorem setN_same {l : Lo} {x : Str} {v : V} : setN l x v x = some v := by unfold setN; rw [if_pos rfl]
theorem setN_ne {l : Lo} {a b : String} {w : V} (h : (a == b) = false) : setN l (Str.ofString b) w (Str.ofString a) = l (Str.ofString a) := by
  unfold setN
  rw [if_neg (fun q => by rw [ofString_inj] at q; subst q; simp at h)]
theorem bind_c {xs : List Str} {vs : List V} {x : Str} {v : V} {l : Lo} {y : Str} : bindV (x :: xs) (v :: vs) l y = bindV xs vs (setN l x v) y := rfl
theorem bind_n {l : Lo} {y : Str} : bindV [] [] l y = l y := rfl
theorem all_c {r : List (Str × V)} {x : Str} {v : V} {l : Lo} {y : Str} : setAll l ((x, v) :: r) y = setAll (setN l x v) r y := rfl
theorem all_n {l : Lo} {y : Str} : setAll l [] y = l y := rfl
theorem compLoc_eq {csc : Scope} {l : Lo} {x : Str} (h : csc.names.lookup x = some .free) : compLoc csc l x = l x := by
  unfold compLoc
  rw [if_pos h]
theorem app_get {hp t : List O} {i : Nat} {o : O} (h : hp[i]? = some o) : (hp ++ t)[i]? = some o := prefix_get (List.prefix_append _ _) h
theorem app_new {hp : List O} {o : O} : (hp ++ [o])[hp.length]? = some o := by simp
theorem get_lt {hp : List O} {i : Nat} {o : O} (h : hp[i]? = some o) : i < hp.length := by
  rcases Nat.lt_or_ge i hp.length with q | q
  · exact q
  · rw [List.getElem?_eq_none q] at h; cases h
end
end Mine

set_option autoImplicit false
namespace Mine
/-! the ridge -/
/-! what hides a hill -/
/-! what is seen later, earlier -/
open Classical in
open Classical in
open Classical in
open Classical in
open Classical in
/-! the tower -/
end Mine

set_option autoImplicit false
namespace Mine
open Classical

/-! the fewest hops -/
section
variable {f : Int → Int} {n : Nat} {a L : Int} {row fresh so : List Int} {k : Nat} {d : Int → Int}
end
end Mine

set_option autoImplicit false
namespace Mine
open PySem PySem.W

theorem set_get {hp : List O} {i j : Nat} {o o' : O} (h : hp[j]? = some o) (ne : i ≠ j) : (hp.set i o')[j]? = some o := by rw [List.getElem?_set_ne ne]; exact h
theorem set_at {hp : List O} {i : Nat} {o o' : O} (h : hp[i]? = some o) : (hp.set i o')[i]? = some o' := by
  rw [List.getElem?_set_self (get_lt h)]
end Mine

set_option autoImplicit false
namespace Mine
open Classical

/-! the way of the fewest hops -/
/-! the rounds of the other reckoning -/
section
variable {f d e : Int → Int} {n : Nat} {b m h : Int}
end
/-! on a line -/
end Mine

set_option autoImplicit false
namespace Mine
open PySem PySem.W PySem.Calls PySem.Spec PyProof.Rows
section
variable {c : Cx} {X : XP} {l : Lo} {hp : List O} {pg : Pg} {sc : Scope} {ns : List Int} {lev : Nat} {qt : Bool}
end
end Mine

set_option autoImplicit false
namespace Mine
open Classical

/-! the pairs that see each other -/
/-! a line, a curve -/
end Mine

set_option autoImplicit false
namespace Mine
open Classical

/-! a land tilted, stretched, turned -/
end Mine

set_option autoImplicit false
namespace Mine
open Classical

/-! the fewest hops are there -/
end Mine

set_option autoImplicit false
namespace Mine
open PySem PySem.W PySem.Calls PySem.Spec PyProof.Rows

/-! a chain of three comparisons; pairs in order -/
section
variable {fx : Fx} {X : XP} {σ : St} {W : Wd} {s : Shared}
end
section
variable {c : Cx} {X : XP} {l : Lo} {hp : List O} {K : KV} {p : Pos}
end
end Mine

set_option autoImplicit false
namespace Mine
open PySem PySem.W PySem.Calls PySem.Spec PyProof.Rows

/-! dicts whose keys are tuples of numbers -/
section
variable {fx : Fx} {X : XP} {σ : St} {W : Wd} {s : Shared}
end
section
variable {c : Cx} {X : XP} {l : Lo} {hp : List O} {K : KV} {p : Pos}
end
end Mine

set_option autoImplicit false
namespace Mine
open PySem PySem.W PySem.Calls PySem.Spec PyProof.Rows

/-! lists of pairs of numbers -/
section
variable {c : Cx} {X : XP} {l : Lo} {hp : List O} {K : KV}
end
end Mine

set_option autoImplicit false
namespace Mine
open PySem PySem.W PySem.Calls PySem.Spec PyProof.Rows

/-! the sort of a list, by a key that tells any two items apart -/
section
variable {prog : Program} {w : World} {A : Around} {E : Value → Shared → Prop} {s : Shared} {κ : SortKind} {key : Value → Int} {a₀ : Array Keyed} {st : SortSt}
end
end Mine

set_option autoImplicit false
namespace Mine
open PySem PySem.W PySem.Calls PySem.Spec PyProof.Rows

section
variable {prog : Program} {w : World} {A : Around} {E : Value → Shared → Prop} {s : Shared} {κ : SortKind} {key : Value → Int} {a₀ : Array Keyed} {st : SortSt}
end
end Mine

set_option autoImplicit false
namespace Mine
open PySem PySem.W PySem.Calls PySem.Spec PyProof.Rows

/-! two sorted rows are joined -/
section
variable {key : Value → Int}
variable {a b out : Array Keyed} {ia ib k : Nat} {x : Keyed}
end
end Mine

set_option autoImplicit false
namespace Mine
open PySem PySem.W PySem.Calls PySem.Spec PyProof.Rows

section
variable {prog : Program} {w : World} {A : Around} {E : Value → Shared → Prop} {s : Shared} {κ : SortKind} {key : Value → Int} {a₀ : Array Keyed} {st st' : SortSt}
end
end Mine

set_option autoImplicit false
namespace Mine
open PySem PySem.W PySem.Calls PySem.Spec PyProof.Rows

/-! the same from behind -/
section
variable {key : Value → Int}
variable {a b out : Array Keyed} {na nb k : Nat} {x : Keyed}
end
end Mine

set_option autoImplicit false
namespace Mine
open PySem PySem.W PySem.Calls PySem.Spec PyProof.Rows

section
variable {prog : Program} {w : World} {A : Around} {E : Value → Shared → Prop} {s : Shared} {κ : SortKind} {key : Value → Int} {a₀ : Array Keyed} {st st' : SortSt}
end
end Mine

set_option autoImplicit false
namespace Mine
open PySem PySem.W PySem.Calls PySem.Spec PyProof.Rows

section
variable {prog : Program} {w : World} {A : Around} {E : Value → Shared → Prop} {s : Shared} {κ : SortKind} {key : Value → Int} {a₀ : Array Keyed} {st : SortSt}
end
end Mine

set_option autoImplicit false
namespace Mine
open PySem PySem.W PySem.Calls PySem.Spec PyProof.Rows

section
variable {prog : Program} {w : World} {A : Around} {E : Value → Shared → Prop} {s : Shared} {κ : SortKind} {key : Value → Int} {a₀ : Array Keyed} {st : SortSt}
end
end Mine

set_option autoImplicit false
namespace Mine
open PySem PySem.W PySem.Calls PySem.Spec PyProof.Rows

/-! sorted, of a list of pairs -/
section
variable {prog : Program} {w : World} {A : Around} {E : Value → Shared → Prop} {s : Shared}
end
section
variable {fx : Fx} {X : XP} {σ : St} {W : Wd} {s : Shared}
end
section
variable {c : Cx} {X : XP} {l : Lo} {hp : List O} {K : KV}
end
end Mine

set_option autoImplicit false
namespace Mine
open PySem PySem.W PySem.Calls PySem.Spec PyProof.Rows

/-- the same frame, deeper within the machine -/
def Fx.sh (fx : Fx) (A : Around) (lev : Nat) : Fx := { fx with A := A, lev := lev }
section
variable {fx : Fx} {A : Around} {lev : Nat} {σ : St} {W : Wd} {s : Shared} {m : Str → Option Value} {news : List (Addr × Obj)}
theorem NameAt.sh {x : Str} {u : Value} : NameAt (fx.sh A lev) m news x u ↔ NameAt fx m news x u := by
  constructor <;> intro h <;> cases h with
  | loc a b c => exact .loc a b c
  | comp a b c => exact .comp a b c
  | cell a b c d => exact .cell a b c d
theorem Core.sh : Core (fx.sh A lev) σ W m news ↔ Core fx σ W m news := by
  constructor <;> intro C
  · exact ⟨C.nd, C.exs, C.exd, C.aln, C.len, C.obs, C.tps, fun x v h => let ⟨u, a, b⟩ := C.loc x v h; ⟨u, a, NameAt.sh.mp b⟩, C.cel, C.scc, C.mfx, C.ext⟩
  · exact ⟨C.nd, C.exs, C.exd, C.aln, C.len, C.obs, C.tps, fun x v h => let ⟨u, a, b⟩ := C.loc x v h; ⟨u, a, NameAt.sh.mpr b⟩, C.cel, C.scc, C.mfx, C.ext⟩
theorem Rep.sh (R : Rep (fx.sh A lev) σ W s) : Rep fx σ W s := by
  refine R.elim fun er g m news G F N C => ?_
  exact ⟨er, g, m, news, G, F, N, Core.sh.mp C⟩
theorem XRep.sh {e : Addr} {cls : Value} {k : Kd} (x : XRep (fx.sh A lev) σ W e cls k s) : XRep fx σ W e cls k s := by
  obtain ⟨r, g, m, news, B, c, f⟩ := x
  exact ⟨r, g, m, news, B, ⟨c.turn, c.dic, c.size, c.ns, c.gB, c.fr, c.nw, Core.sh.mp c.core, c.base⟩, f⟩
theorem FxAll.sh (a : FxAll fx) (hl : lev + 1 ≤ fx.lev) (h1 : A.handled = fx.A.handled) (h2 : A.frames = fx.A.frames) (h3 : A.depth ≤ fx.A.depth + 1) (h4 : A.units ≤ fx.A.units + 8) : FxAll (fx.sh A lev) :=
  { ok := ⟨a.ok.kind, fun q => h1.trans (a.ok.handled q)⟩
    locs := a.locs
    cex := a.cex
    cinj := a.cinj
    cdef := a.cdef
    scr := a.scr
    egl := a.egl
    ebu := a.ebu
    top := a.top
    part := a.part
    below := a.below
    dicts := a.dicts
    frs := h2.trans a.frs
    ffr := a.ffr
    fkd := a.fkd
    depth := by have := a.depth; show A.depth + lev < recursionLimit; omega
    room := by have := a.room; show A.units + 8 * lev + 100 < cLine; omega
    mfn := a.mfn
    envf := a.envf }
end

theorem tc_envs (args : Args) : (Code.builtin "type.__call__" args).envs = [] := by kernel_rfl
theorem tc_units (args : Args) : (Code.builtin "type.__call__" args).cUnits = 1 := by kernel_rfl
theorem tc_weight (C : Addr) (us : List Value) : (Code.builtin "type.__call__" ⟨.ref C :: us, []⟩).weight = 1 := by kernel_rfl

/-- a class of the text, called -/
theorem callOK_class {pg : Pg} {C fI : Addr} {lev : Nat} {qt : Bool} {ns : List Int} {vs : List V} {hp : List O} {X : Value → List O → Prop} {Q : V → List O → Prop}
    (hm : makesIn pg.K C = true) (hi : findIn pg.K (.ref C) "__init__" = some (some (.ref fI))) (hf : typeIn pg.K (.ref fI) = some (.type "function"))
    (h : CallOK pg lev qt ns fI (.ref (hp.length + 1) :: vs) (hp ++ [.att []] ++ [.inst C hp.length]) X (fun v hp' => v = .none ∧ Q (.ref (hp.length + 1)) hp')) : CallOK pg (lev + 1) qt ns C vs hp X Q := by
  rintro fx all rfl hlev hns hqt loc W s us R r
  have stB := all.stays R
  have X' := all.part.keeps stB
  refine R.elim fun er g m news G F N C' => ?_
  refine make_K F N X' hm hi hf fun x dx h' F' N' lt1 lt2 => ?_
  have hlen := C'.len
  have C1 := C'.add (a := dx) (ob := emptyDict) (o := .att []) (fun p hp => Nat.ne_of_lt (lt1 p hp)) fun W' _ => .att (ds := []) (ep := 0) trivial
  have C2 := C1.add (a := x) (ob := instObj C dx) (o := .inst C hp.length) (fun p hp => by
    rcases List.mem_cons.mp hp with rfl | hp
    · exact Nat.ne_of_lt lt2
    · exact Nat.ne_of_lt (Nat.lt_trans (lt1 p hp) lt2)) fun W' le => .inst (prefix_get le.1 (by simp [hlen]))
  have R' : Rep (fx.sh (fx.A.under (.builtin "type.__call__" ⟨.ref C :: us, []⟩)) (fx.lev - 1)) ⟨loc, hp ++ [.att []] ++ [.inst C hp.length]⟩ ⟨W.al ++ [dx] ++ [x], W.tp, W.sc⟩ { s with heap := h' } := ⟨rest_heap er _, g, m, _, G, F', N', Core.sh.mpr C2⟩
  have le : W.le ⟨W.al ++ [dx] ++ [x], W.tp, W.sc⟩ := ⟨by rw [List.append_assoc]; exact List.prefix_append _ _, fun _ h => h, rfl⟩
  refine codeAny_mono (h (fx.sh (fx.A.under (.builtin "type.__call__" ⟨.ref C :: us, []⟩)) (fx.lev - 1)) (all.sh (by omega) rfl (by unfold Around.under; dsimp only; rw [tc_envs]; rfl) (Nat.le_of_eq (congrArg (fx.A.depth + ·) (tc_weight C us))) (by unfold Around.under; dsimp only; rw [tc_units]; omega)) rfl (show lev ≤ fx.lev - 1 by omega) hns hqt loc _ _ (.ref x :: us) R' (.cons (.ref (by
    simp [hlen])) (r.mono le))) fun r s' z => ?_
  rcases r with e | (_ | _ | v | _)
  all_goals first | exact z.elim | skip
  · obtain ⟨e', cls, k, W', σ', a, b, c, d⟩ := z
    exact ⟨e', cls, k, W', σ', a, le.trans b, c.sh, d⟩
  · obtain ⟨W', σ', v', a, b, c, d, e, f⟩ := z
    subst e
    cases c
    refine ⟨rfl, W', σ', _, le.trans a, b.sh, .ref (prefix_get a.1 (by simp [hlen])), d, f⟩

end Mine

set_option autoImplicit false
namespace Mine
open PySem PySem.W PySem.Calls PySem.Spec PyProof.Rows

theorem AttE.get {W : Wd} {x : Str} {v : V} : ∀ {es : List (Str × V)} {ds : List DictEntry}, AttE W es ds → es.lookup x = some v → ∃ d, ds.find? (·.key.isStr x) = some d ∧ VR W v d.val
  | [], [], _, h => by cases h
  | (y, u) :: es, d :: ds, ⟨⟨t, a⟩, b, c⟩, h => by
    rw [List.lookup_cons] at h
    rw [List.find?_cons, a]
    show ∃ d', (match y == x with | true => some d | false => _) = some d' ∧ _
    by_cases q : x = y
    · subst q
      rw [beq_self_eq_true] at h ⊢
      cases h
      exact ⟨d, rfl, b⟩
    · rw [beq_eq_false_iff_ne.mpr q] at h
      rw [beq_eq_false_iff_ne.mpr (Ne.symm q)]
      exact AttE.get c h
  | [], _ :: _, h, _ => h.elim
  | _ :: _, [], h, _ => h.elim
theorem AttE.nothing {W : Wd} {x : Str} : ∀ {es : List (Str × V)} {ds : List DictEntry}, AttE W es ds → es.lookup x = none → ds.find? (·.key.isStr x) = none ∧ ds.any (·.refKey) = false ∧ ds.any (·.key.isStr x) = false
  | [], [], _, h => ⟨rfl, rfl, rfl⟩
  | (y, u) :: es, d :: ds, ⟨⟨t, a⟩, b, c⟩, h => by
    rw [List.lookup_cons] at h
    by_cases q : x = y
    · subst q
      rw [beq_self_eq_true] at h
      cases h
    · rw [beq_eq_false_iff_ne.mpr q] at h
      obtain ⟨k1, k2, k3⟩ := AttE.nothing c h
      have e : d.key.isStr x = false := by rw [a]; exact beq_eq_false_iff_ne.mpr (Ne.symm q)
      refine ⟨?_, ?_, ?_⟩
      · rw [List.find?_cons, e]; exact k1
      · rw [List.any_cons, k2]; simp [DictEntry.refKey, a]
      · rw [List.any_cons, k3, e]; rfl
  | [], _ :: _, h, _ => h.elim
  | _ :: _, [], h, _ => h.elim
theorem AttE.put {W : Wd} {x : Str} {v : V} {u : Value} {hs : Int} {t : Tok} (hv : VR W v u) : ∀ {es : List (Str × V)} {ds : List DictEntry}, AttE W es ds → es.lookup x = none → AttE W (es ++ [(x, v)]) (putL x hs (.str x t) u ds) ∧ (putL x hs (.str x t) u ds).length = es.length + 1
  | [], [], _, _ => ⟨⟨⟨t, rfl⟩, hv, trivial⟩, rfl⟩
  | (y, w) :: es, d :: ds, ⟨⟨t', a⟩, b, c⟩, h => by
    rw [List.lookup_cons] at h
    by_cases q : x = y
    · subst q
      rw [beq_self_eq_true] at h
      cases h
    · rw [beq_eq_false_iff_ne.mpr q] at h
      have e : d.key.isStr x = false := by rw [a]; exact beq_eq_false_iff_ne.mpr (Ne.symm q)
      obtain ⟨k1, k2⟩ := AttE.put hv c h
      have e' : putL x hs (.str x t) u (d :: ds) = d :: putL x hs (.str x t) u ds := by rw [putL, e]; rfl
      rw [e']
      exact ⟨⟨⟨t', a⟩, b, k1⟩, by rw [List.length_cons, k2]; rfl⟩
  | [], _ :: _, h, _ => h.elim
  | _ :: _, [], h, _ => h.elim

theorem upd_of {d : Addr} {o o' : Obj} : ∀ {l : List (Addr × Obj)}, (l.map (·.1)).Nodup → (d, o) ∈ l → Upd d o o' l (setL d o' l)
  | p :: r, nd, h => by
    rw [List.map_cons, List.nodup_cons] at nd
    rcases List.mem_cons.mp h with rfl | h
    · have ne : ∀ p ∈ r, p.1 ≠ d := fun p hp q => nd.1 (List.mem_map.mpr ⟨p, hp, q⟩)
      have e : setL d o' ((d, o) :: r) = (d, o') :: r := by
        unfold setL
        rw [List.map_cons]
        congr 1
        · simp
        · exact (List.map_congr_left fun p hp => by simp [ne p hp]).trans (List.map_id _)
      rw [e]
      exact .head ne
    · have ne : p.1 ≠ d := fun q => nd.1 (List.mem_map.mpr ⟨_, h, q.symm⟩)
      have e : setL d o' (p :: r) = p :: setL d o' r := by
        unfold setL
        rw [List.map_cons]
        congr 1
        simp [ne]
      rw [e]
      exact .tail ne (upd_of nd.2 h)

/-- what the class says of an attribute of its instances' own -/
structure AttOk (K : Frag) (C : Addr) (name : Str) : Prop where
  get : plainGet K C name = true
  dic : hasDictIn K C = true
  no : findIn K (.ref C) name = some none
  set : findIn K (.ref C) "__setattr__" = some (some (.builtin "object.__setattr__"))
  ov : plainOver K C = true
  tk : takerIn K C name = some none
section
variable {fx : Fx} {X : XP} {σ : St}
theorem Core.inst {W : Wd} {m : Str → Option Value} {news : List (Addr × Obj)} {g h : Heap} {L : Addr} (C' : Core fx σ W m news) (N : News g L h news) {i j : Nat} {C : Addr} {es : List (Str × V)} (h1 : σ.hp[i]? = some (.inst C j)) (h2 : σ.hp[j]? = some (.att es)) :
    ∃ a dx ds ep, W.al[i]? = some a ∧ W.al[j]? = some dx ∧ (dx, dictOf ds ep) ∈ news ∧ AttE W es ds ∧ InstAt h a (instObj C dx) C (some (dictOf ds ep)) := by
  obtain ⟨a, ob, a1, a2, a3⟩ := C'.obs i _ h1
  obtain ⟨b, ob', b1, b2, b3⟩ := C'.obs j _ h2
  cases a3 with
  | inst e =>
    rw [b1] at e
    cases e
    cases b3 with
    | att c => exact ⟨a, b, _, _, a1, b1, b2, c, ⟨(N _ a2).1, rfl, rfl, (N _ b2).1⟩⟩

theorem evAttr (all : FxAll fx) {x attr : Str} {xp pos : Pos} {Q : V → St → Prop} (h : EvE fx X (.Name x xp) σ (fun v σ₁ => ∃ i j C es k, v = .ref i ∧ σ₁.hp[i]? = some (.inst C j) ∧ σ₁.hp[j]? = some (.att es) ∧ es.lookup attr = some (.ref k) ∧ AttOk fx.pg.K C attr ∧ Q (.ref k) σ₁)) :
    EvE fx X (.Attribute (.Name x xp) attr pos) σ Q := by
  intro W s R
  refine Attribute_Name_ (wpAny_mono (h W s R) ?_ fun _ _ x => x)
  refine fun u₁ s₁ zz => zz.elim fun W₁ σ₁ v₁ le₁ R₁ r₁ h₁ => ?_
  obtain ⟨i, j, C, es, k, rfl, e1, e2, e3, ok, q⟩ := h₁
  have st := all.stays R₁
  refine R₁.elim fun er g m news G F N C' => ?_
  obtain ⟨a, dx, ds, ep, a1, a2, a3, a4, a5⟩ := C'.inst N e1 e2
  cases r₁ with
  | ref e =>
    rw [a1] at e
    cases e
    obtain ⟨d, d1, d2⟩ := a4.get e3
    refine get_own (K := fx.pg.K) F (fun b o e => (all.ground G).1.stays b o (all.part b o e)) a5 ok.get ok.dic ok.no rfl (v := d.val) (by unfold getL; rw [d1]) (by generalize d.val = z at d2; cases d2; rfl) ⟨W₁, σ₁, _, le₁, R₁.toks _, d2, q⟩

theorem evAssignAttr (all : FxAll fx) {o e : Expr} {attr : Str} {p pos : Pos} {Q : Fl → St → Prop}
    (h : EvE fx X e σ (fun v σ₁ => EvE fx X o σ₁ (fun ov σ₂ => ∃ i j C es, ov = .ref i ∧ σ₂.hp[i]? = some (.inst C j) ∧ σ₂.hp[j]? = some (.att es) ∧ es.lookup attr = none ∧ es.length < 100 ∧ AttOk fx.pg.K C attr ∧ Q .next ⟨σ₂.loc, σ₂.hp.set j (.att (es ++ [(attr, v)]))⟩))) (hc : notComp e = true) :
    EvS fx X (.Assign [.Attribute o attr p] e pos) σ Q := by
  intro W s R
  refine plainObj_wpAny_Assign_Attribute (wpAny_mono (h W s R) ?_ fun _ _ x => x) (swaps_false hc _ _ _)
  refine fun u₁ s₁ zz => zz.elim fun W₁ σ₁ v₁ le₁ R₁ r₁ h₁ => ?_
  refine wpAny_mono (h₁ W₁ s₁ R₁) ?_ fun _ _ x => x.mono le₁ fun _ _ y => y
  refine fun u₂ s₂ zz => zz.elim fun W₂ σ₂ v₂ le₂ R₂ r₂ h₂ => ?_
  obtain ⟨i, j, C, es, rfl, e1, e2, e3, e4, ok, q⟩ := h₂
  refine R₂.elim fun er g m news G F N C' => ?_
  obtain ⟨a, dx, ds, ep, a1, a2, a3, a4, a5⟩ := C'.inst N e1 e2
  cases r₂ with
  | ref z =>
    rw [a1] at z
    cases z
    obtain ⟨n1, n2, n3⟩ := a4.nothing e3
    obtain ⟨p1, p2⟩ := AttE.put (hs := PyData.keyHash fx.pg.w.params attr) (t := s₂.toks + 1) (r₁.mono le₂) a4 e3
    refine set_dict (K := fx.pg.K) F (fun b o e => (all.ground G).1.stays b o (all.part b o e)) N a5 rfl ok.set ok.ov ok.tk ok.dic (by unfold getL; rw [n1, n2]; rfl) rfl (upd_of C'.nd a3) (by rw [p2]; omega) fun h' F' N' => ?_
    exact ⟨W₂, _, .next, le₁.trans le₂, ⟨rest_with er _ _, g, m, _, G, F', N', C'.upd e2 a2 (.att p1)⟩, .next, q⟩
end
end Mine

set_option autoImplicit false
namespace Mine
open PySem PySem.W PySem.Calls PySem.Spec PyProof.Rows

/-- what the class says of a method -/
structure MthOk (K : Frag) (C : Addr) (name : Str) (f : Addr) : Prop where
  get : plainGet K C name = true
  fn : findIn K (.ref C) name = some (some (.ref f))
  isf : isFn K (.ref f) = true
  keep : keepIn K (.ref f) = true
section
variable {fx : Fx} {X : XP} {σ : St}
theorem evMethOwn (all : FxAll fx) {o : Expr} {name : Str} {apos pos : Pos} {args : List Expr} {Q : V → St → Prop} (hb : baseOk o = true) (ha : args.all noStar = true) (hn : args.length < 30) (hp : (apos.endLine == pos.line) = true)
    (h : EvE fx X o σ (fun ov σ₁ => ∃ i j C es f, ov = .ref i ∧ σ₁.hp[i]? = some (.inst C j) ∧ σ₁.hp[j]? = some (.att es) ∧ es.lookup name = none ∧ MthOk fx.pg.K C name f ∧ EvEs fx X args σ₁ (fun vs σ₂ => CallT fx X (.ref f) (.ref i :: vs) σ₂ Q))) : EvE fx X (.Call (.Attribute o name apos) args [] pos) σ Q := by
  intro W s R
  have he : eval (.Call (.Attribute o name apos) args [] pos) fx.env = (do
      let ov ← attributeBase o name fx.env (eval o fx.env)
      standAt apos.atName
      methodCall o name apos pos fx.env ov (args.length + 0) (backTo pos (starEach args fx.env)) []) := rfl
  rw [he, attributeBase_plain hb]
  refine wpAny_bind (wpAny_mono (h W s R) ?_ fun _ _ x => x)
  rintro u s₁ ⟨W₁, σ₁, ov, le₁, R₁, r₁, i, j, C, es, f, rfl, e1, e2, e3, ok, h₁⟩
  refine wpAny_bind (wpAny_standAt ?_)
  unfold methodCall
  have hf : methodCallForm (args.length + 0) (backTo pos (starEach args fx.env)) [] = true := by
    unfold methodCallForm
    rw [star_all ha]
    simp; omega
  rw [hf]
  unfold calleeOf
  simp only [if_true]
  have part : ∀ {σ' : St} {W' : Wd} {s' : Shared}, Rep fx σ' W' s' → fx.pg.K.In s'.heap := fun R' => all.part.keeps (all.stays R')
  refine R₁.elim fun er g m news G F N C' => ?_
  obtain ⟨a, dx, ds, ep, a1, a2, a3, a4, a5⟩ := C'.inst N e1 e2
  obtain ⟨n1, n2, n3⟩ := a4.nothing e3
  have r₁' := r₁
  cases r₁ with
  | ref z =>
    rw [a1] at z
    cases z
    refine wpAny_bind (wpAny_holding (method_inst (K := fx.pg.K) F (fun b o e => (all.ground G).1.stays b o (all.part b o e)) a5 ok.get ok.fn ok.isf (by unfold getL; rw [n1, n2]; rfl) ?_))
    unfold methodCallPos
    simp only [Bool.not_true, Bool.false_or, hp, if_true]
    refine wpAny_bind (wpAny_pure ?_)
    cases args with
    | nil =>
      refine callWith_K0 (part R₁) ok.keep ?_
      have h₂ := h₁ W₁ s₁ pos R₁
      have e0 : spliced (backTo pos (starEach [] fx.env)) = pure [] := rfl
      rw [e0] at h₂
      intro Γ p hΓ
      obtain ⟨W₂, σ₂, vs, le₂, R₂, r₂, h₄⟩ := h₂ Γ p hΓ
      cases r₂
      exact wpAny_mono (h₄ W₂ s₁ [.ref a] R₂ (.cons (r₁'.mono le₂) .nil)) (fun _ _ x => x.mono (le₁.trans le₂) fun _ _ y => y) (fun _ _ x => x.mono (le₁.trans le₂) fun _ _ y => y) Γ p hΓ
    | cons e rest =>
      rw [List.all_cons, Bool.and_eq_true] at ha
      refine callWith_K (part R₁) ok.keep (wpAny_mono (h₁ W₁ s₁ pos R₁) ?_ fun _ _ x => x.mono le₁ fun _ _ y => y) (star_cons ha.1 _ _) (star_any ha.2 _ _)
      refine fun us s₂ zz => zz.elim fun W₂ σ₂ vs le₂ R₂ r₂ h₂ => ?_
      exact ⟨part R₂, wpAny_mono (h₂ W₂ s₂ (.ref a :: us) R₂ (.cons (r₁'.mono le₂) r₂)) (fun _ _ x => x.mono (le₁.trans le₂) fun _ _ y => y) fun _ _ x => x.mono (le₁.trans le₂) fun _ _ y => y⟩
end
end Mine

set_option autoImplicit false
namespace Mine
open PySem PySem.W PySem.Calls PySem.Spec PyProof.Rows
section
variable {fx : Fx} {X : XP} {σ : St}
theorem evCallK (all : FxAll fx) {f : Str} {p pos : Pos} {a : Addr} {e : Expr} {rest : List Expr} {Q : V → St → Prop} (hf : fx.pg.gl f = some (.ref a)) (hk : fx.env.kindOf f = some .globalImplicit) (hd : (f == ("__debug__" : Str)) = false) (hfn : keepIn fx.pg.K (.ref a) = true) (hs : (e :: rest).all noStar = true)
    (h : EvEs fx X (e :: rest) σ (fun vs σ₁ => CallT fx X (.ref a) vs σ₁ Q)) : EvE fx X (.Call (.Name f p) (e :: rest) [] pos) σ Q := by
  intro W s R
  rw [List.all_cons, Bool.and_eq_true] at hs
  refine Call_Name rfl (all.glb f _ p hf hk σ W s _ _ R ?_ hd)
  refine callWith_K (first := []) all.part hfn (wpAny_mono (h W s pos R) ?_ fun _ _ x => x) (star_cons hs.1 _ _) (star_any hs.2 _ _)
  refine fun us s₁ zz => zz.elim fun W₁ σ₁ vs le₁ R₁ r₁ h₁ => ?_
  exact ⟨all.part.keeps (all.stays R₁), wpAny_mono (h₁ W₁ s₁ us R₁ r₁) (fun _ _ x => x.mono le₁ fun _ _ y => y) fun _ _ x => x.mono le₁ fun _ _ y => y⟩
end
/-- an attribute that the object has, or has not yet -/
@[irreducible] def AtG (pg : Pg) (ov : V) (attr : Str) (hp : List O) (P : V → Prop) : Prop := ∃ i j C es k, ov = .ref i ∧ hp[i]? = some (.inst C j) ∧ hp[j]? = some (.att es) ∧ es.lookup attr = some (.ref k) ∧ AttOk pg.K C attr ∧ P (.ref k)
@[irreducible] def AtS (pg : Pg) (ov : V) (attr : Str) (v : V) (hp : List O) (P : List O → Prop) : Prop := ∃ i j C es, ov = .ref i ∧ hp[i]? = some (.inst C j) ∧ hp[j]? = some (.att es) ∧ es.lookup attr = none ∧ es.length < 100 ∧ AttOk pg.K C attr ∧ P (hp.set j (.att (es ++ [(attr, v)])))
@[irreducible] def Mth (pg : Pg) (ov : V) (name : Str) (hp : List O) (P : Nat → Addr → Prop) : Prop := ∃ i j C es f, ov = .ref i ∧ hp[i]? = some (.inst C j) ∧ hp[j]? = some (.att es) ∧ es.lookup name = none ∧ MthOk pg.K C name f ∧ P i f
section
variable {c : Cx} {X : XP} {l : Lo} {hp : List O} {K : KV} {p q r : Pos} {pg : Pg} {sc : Scope} {ns : List Int} {lev : Nat} {qt : Bool}
theorem at_g {i j k : Nat} {C : Addr} {es : List (Str × V)} {attr : Str} {P : V → Prop} (h1 : hp[i]? = some (.inst C j)) (h2 : hp[j]? = some (.att es)) (h3 : es.lookup attr = some (.ref k)) (ok : AttOk pg.K C attr) (h : P (.ref k)) : AtG pg (.ref i) attr hp P := by
  unfold AtG; exact ⟨i, j, C, es, k, rfl, h1, h2, h3, ok, h⟩
theorem at_s {i j : Nat} {C : Addr} {es : List (Str × V)} {attr : Str} {v : V} {P : List O → Prop} (h1 : hp[i]? = some (.inst C j)) (h2 : hp[j]? = some (.att es)) (h3 : es.lookup attr = none) (h4 : es.length < 100) (ok : AttOk pg.K C attr) (h : P (hp.set j (.att (es ++ [(attr, v)])))) : AtS pg (.ref i) attr v hp P := by
  unfold AtS; exact ⟨i, j, C, es, rfl, h1, h2, h3, h4, ok, h⟩
theorem at_m {i j : Nat} {C f : Addr} {es : List (Str × V)} {attr : Str} {P : Nat → Addr → Prop} (h1 : hp[i]? = some (.inst C j)) (h2 : hp[j]? = some (.att es)) (h3 : es.lookup attr = none) (ok : MthOk pg.K C attr f) (h : P i f) : Mth pg (.ref i) attr hp P := by
  unfold Mth; exact ⟨i, j, C, es, f, rfl, h1, h2, h3, ok, h⟩
theorem e_attr {x attr : Str} (hc : CxIs c pg sc ns lev qt) (h : E c X (.Name x q) l hp fun v l hp => AtG pg v attr hp fun w => K w l hp) : E c X (.Attribute (.Name x q) attr p) l hp K := by
  obtain ⟨rfl⟩ := hc
  unfold E AtG at *
  exact fun fx F => evAttr F.all ((h fx F).mono fun v σ ⟨i, j, C, es, k, a1, a2, a3, a4, a5, a6⟩ => ⟨i, j, C, es, k, a1, a2, a3, a4, by rw [F.pg]; exact a5, a6⟩)
theorem s_asgA {o e : Expr} {attr : Str} {K : KF} (hc : CxIs c pg sc ns lev qt) (nc : notComp e = true) (h : E c X e l hp fun v l hp => E c X o l hp fun ov l hp => AtS pg ov attr v hp fun hp => K .next l hp) : S c X (.Assign [.Attribute o attr q] e p) l hp K := by
  obtain ⟨rfl⟩ := hc
  unfold S
  unfold E AtS at h
  exact fun fx F _ => evAssignAttr F.all ((h fx F).mono fun v σ h₁ => (h₁ fx F).mono fun ov σ' ⟨i, j, C, es, a1, a2, a3, a4, a5, a6, a7⟩ => ⟨i, j, C, es, a1, a2, a3, a4, a5, by rw [F.pg]; exact a6, a7⟩) nc
theorem e_meth {o : Expr} {name : Str} {args : List Expr} (hc : CxIs c pg sc ns lev qt) (hb : baseOk o = true) (ha : args.all noStar = true) (hn : Nat.blt args.length 30 = true) (hl : (q.endLine == p.line) = true)
    (h : E c X o l hp fun ov l₁ hp₁ => Mth pg ov name hp₁ fun i f => Es c X args l₁ hp₁ fun vs l hp => CallOK pg lev qt ns f (.ref i :: vs) hp (fun d hp' => X d ⟨l, hp'⟩) (fun v hp' => K v l hp')) : E c X (.Call (.Attribute o name q) args [] p) l hp K := by
  obtain ⟨rfl⟩ := hc
  unfold E Mth Es at *
  refine fun fx F => evMethOwn F.all hb ha (Nat.blt_eq.mp hn) hl ((h fx F).mono fun ov σ ⟨i, j, C, es, f, a1, a2, a3, a4, a5, a6⟩ => ⟨i, j, C, es, f, a1, a2, a3, a4, by rw [F.pg]; exact a5, (a6 fx F).mono fun vs σ h₁ => callT_of (qt := qt) F.all F.lev F.qt (by rw [F.pg, F.ns]; exact h₁)⟩)
theorem e_callK {f : Str} {a : Expr} {args : List Expr} {d : Addr} (hc : CxIs c pg sc ns lev qt) (g : pg.gl f = some (.ref d)) (i : keepIn pg.K (.ref d) = true) (k : sc.names.lookup f = some .globalImplicit) (st : (a :: args).all noStar = true) (h : Es c X (a :: args) l hp fun vs l hp => CallOK pg lev qt ns d vs hp (fun d hp' => X d ⟨l, hp'⟩) (fun v hp' => K v l hp')) : E c X (.Call (.Name f q) (a :: args) [] p) l hp K := by
  obtain ⟨rfl⟩ := hc
  unfold E
  unfold Es at h
  exact fun fx F => evCallK F.all (by rw [F.pg]; exact g) (by rw [F.kind]; exact k) (F.name k).1 (by rw [F.pg]; exact i) st ((h fx F).mono fun vs σ h₁ => callT_of (qt := qt) F.all F.lev F.qt (by rw [F.pg, F.ns]; exact h₁))
end
end Mine

set_option autoImplicit false
namespace Mine
open PySem PySem.W PySem.Calls PySem.Spec PyProof.Rows
section
variable {fx : Fx} {X : XP} {σ : St}
theorem tupleOf_ok {i : Nat} {vs : List V} {Q : V → St → Prop} (ho : σ.hp[i]? = some (.list vs)) (hl : vs.length ≤ sizeLine) (h : Q (.tup vs) σ) : CallT fx X (.type "tuple") [.ref i] σ Q := by
  intro W s us R r
  cases r with
  | cons r₁ r =>
    cases r
    obtain ⟨a, xs, n, rfl, h1, h2, h3⟩ := R.list_at ho r₁
    refine call_tuple_list (items := xs.toArray) ⟨_, h2, rfl, n, rfl⟩ (fun h' hk => ?_) (by rw [List.size_toArray, ← h3.length]; exact hl)
    have R' := R.keep s.toks hk
    obtain ⟨W', le, hm, R''⟩ := R'.newTup xs s.toks
    exact ⟨W', σ, .tup vs, le, R'', .tup hm (h3.mono le), h⟩
theorem evDictInt {a b : Int} {k1 k2 : Nat} {p1 p2 pos : Pos} {Q : V → St → Prop} (h : Q (.ref σ.hp.length) ⟨σ.loc, σ.hp ++ [.dic]⟩) : EvE fx X (.Dict [some (.Constant (.int a) k1 p1)] [.Constant (.int b) k2 p2] pos) σ Q := by
  intro W s R
  refine R.elim fun er g m news G F N C => ?_
  refine Dict_made_int rfl F rfl rfl (by simp) (by simp) fun F' => ?_
  refine pairTrees_cons_walk ?_
  refine wpAny_Constant_int (wpAny_Constant_int (pairTrees_nil_walk ?_))
  refine ⟨[(a, _)], ⟨intKind_is _ _ _ _, rfl, trivial⟩, ?_, fun h' D S => ?_⟩
  · exact ⟨_, #[], 0, Heap.get?_push_size _ rfl, ⟨rfl, rfl, rfl⟩, rfl, (fun e he => by simp at he), .nil, List.nodup_nil⟩
  · obtain ⟨o, es, ep, h1, h2, _⟩ := D
    have N' := News.filled F N S h1
    refine ⟨⟨W.al ++ [s.heap.objs.size], W.tp, W.sc⟩, _, _, ⟨List.prefix_append _ _, fun _ h => h, rfl⟩, ⟨rest_with er _ _, g, m, _, G, Fr.filled F S, N', C.add (fun p hp => Nat.ne_of_lt (Heap.lt_size (N p hp).1)) fun W' _ => .dic h2.1⟩, .ref (by simp [← C.len]), h⟩
theorem isi_dicT {a : Addr} {o : Obj} {A : Around} {s : Shared} {E : Value → Shared → Prop} {prog : Program} {w : World} {Q : Value → Shared → Prop} (ho : s.heap.get? a = some o) (hc : o.cls = .type "dict")
    (h : ∀ tk, Q (.bool false) { s with toks := tk }) : wpAny (model prog w) A (call (.builtin "isinstance") [.ref a, .type "list"]) Q E s :=
  call_isinstance (isinstance_false_dict (by decide) F.isi_meta_list (by rw [isSubtype_type]; kernel_rfl)) ⟨⟨o, ho, hc⟩, h _⟩
theorem Rep.dic_at {W : Wd} {s : Shared} (R : Rep fx σ W s) {i : Nat} {u : Value} (ho : σ.hp[i]? = some .dic) (r : VR W (.ref i) u) : ∃ a o, u = .ref a ∧ s.heap.get? a = some o ∧ o.cls = .type "dict" := by
  refine R.elim fun _ g m news G F N C => ?_
  obtain ⟨a, ob, h1, h2, h3⟩ := C.obs i _ ho
  cases r with
  | ref e =>
    rw [h1] at e
    cases e
    cases h3 with
    | dic c => exact ⟨_, _, rfl, (N _ h2).1, c⟩
end
section
variable {c : Cx} {X : XP} {l : Lo} {hp : List O} {K : KV}
theorem ct_tuple {i : Nat} {vs : List V} (e : hp[i]? = some (.list vs)) (s : Side (vs.length ≤ sizeLine)) (h : K (.tup vs) l hp) : CT c X "tuple" [.ref i] l hp K := by unfold CT; exact fun _ _ => tupleOf_ok e s.h h
theorem e_dictI {a b : Int} {k1 k2 : Nat} {p1 p2 p : Pos} (h : K (.ref hp.length) l (hp ++ [.dic])) : E c X (.Dict [some (.Constant (.int a) k1 p1)] [.Constant (.int b) k2 p2] p) l hp K := by unfold E; exact fun _ _ => evDictInt h
theorem isi_dl {i : Nat} (e : hp[i]? = some .dic) (h : K (.bool false) l hp) : CB c X "isinstance" [.ref i, .glob (.type "list")] l hp K := by unfold CB; exact fun _ _ => isi_of (fun W s u Q E R r q => by obtain ⟨_, _, rfl, h2, h3⟩ := R.dic_at e r; exact isi_dicT h2 h3 q) h
end
end Mine

set_option autoImplicit false
namespace Mine
open PySem PySem.W PySem.Calls PySem.Spec PyProof.Rows

section
variable {fx : Fx} {X : XP} {σ : St}
end
section
variable {c : Cx} {X : XP} {l : Lo} {hp : List O} {K : KV} {p q r p1 p2 : Pos} {pg : Pg} {sc : Scope} {ns : List Int} {lev : Nat} {qt : Bool}
end
end Mine

set_option autoImplicit false
namespace Mine
open PySem PySem.W PySem.Calls PySem.Spec PyProof.Rows

/-! a heap that changes at some places alone -/
/-! a land -/
section
variable {hp hp' : List O} {C : Addr} {i j h t : Nat} {xs : List Int} {ds : List (Int × Int)}
end

/-! what the lifts do -/
/-! what was told -/
end Mine

section
open PySem PySem.W PyProof.Rows
namespace Mine
set_option maxRecDepth 100000
set_option maxHeartbeats 8000000
def hpick {α : Type} (l : List α) : List Nat → List α
  | [] => []
  | i :: is => match l[i]? with | some x => x :: hpick l is | none => hpick l is
def q12 : Program := { PySem.Challenge.pw_uf050038_12 with main := { PySem.Challenge.pw_uf050038_12.main with body := hpick PySem.Challenge.pw_uf050038_12.main.body [0, 2, 3, 4, 5, 6, 7, 9, 10, 12, 13, 14, 16, 18, 19, 20, 22, 23, 24, 25, 26] } }
def lay : Nat → Nat → Frag → List Obj → List Obj
  | 0, _, _, _ => []
  | _ + 1, _, [], _ => []
  | n + 1, a, (b, o) :: ks, ms => match Nat.beq a b with
    | true => o :: lay n (a + 1) ks ms
    | false => match ms with
      | m :: ms => m :: lay n (a + 1) ((b, o) :: ks) ms
      | [] => []
def onAt : List Obj → Nat → (Obj → Obj) → List Obj
  | [], _, _ => []
  | o :: l, 0, f => f o :: l
  | o :: l, n + 1, f => o :: onAt l n f
def tr3 (m ep : Nat) (v : Value) : Obj → Obj
  | ⟨c, d, .dict es _, s⟩ => ⟨c, d, .dict ⟨match es.toList.take m with | [] => [] | e :: l => { e with val := v } :: l⟩ ep, s⟩
  | o => o
def tr12 (m : Nat) : Obj → Obj
  | ⟨c, d, .fields vs, s⟩ => ⟨c, d, .fields ⟨vs.toList.take m⟩, s⟩
  | o => o
def look (F : Frag) (a : Nat) : Obj := (F.lookup a).getD default
noncomputable def bootO (P : Params) (a : Nat) : Obj := ((boot_heap P).objs.toList[a]?).getD default
def tm : Obj → Obj
  | ⟨_, _, .func f, _⟩ => { cls := .none, data := .func { name := f.name, qualname := f.qualname, params := f.params, body := f.body, scope := f.scope, globals := 0, closure := [], defaults := .none, kwdefaults := .none } }
  | o => o
noncomputable def cutH (F : Params → Frag) (M : Params → Frag → List Obj) (n : Nat) (P : Params) (ov : List (Nat × (Obj → Obj))) : Heap := ⟨⟨ov.foldl (fun l x => onAt l x.1 x.2) (lay n 0 (F P) (M P (F P)))⟩, {}⟩
noncomputable def mis12 (P : Params) (F : Frag) : List Obj := [
  (bootO P 0),
  (bootO P 1),
  (bootO P 4),
  (bootO P 5),
  (bootO P 6),
  (bootO P 7),
  (bootO P 8),
  (bootO P 9),
  (bootO P 10),
  { cls := Value.type "tuple", data := Data.seq #[] },
  { cls := Value.none, data := Data.fields #[Value.int 1 0, Value.int 0 0, Value.ref 20, Value.int 5 0, Value.int 0 0, Value.ref 27, Value.int 7 0, Value.int 0 0, Value.ref 40, Value.int 9 0, Value.int 0 0, Value.ref 52, Value.int 11 0, Value.int 0 0, Value.ref 64, Value.int 13 0, Value.int 0 0, Value.ref 76, Value.int 15 0, Value.int 0 0, Value.ref 88, Value.int 18 0, Value.int 0 0, Value.ref 100, Value.int 20 0, Value.int 0 0, Value.ref 107, Value.int 23 0, Value.int 0 0, Value.ref 114, Value.int 26 0, Value.int 0 0, Value.ref 121, Value.int 35 0, Value.int 0 0, Value.ref 128, Value.int 44 0, Value.int 0 0, Value.ref 135, Value.int 48 0, Value.int 0 0, Value.ref 142, Value.int 55 0, Value.int 0 0, Value.ref 149, Value.int 94 0, Value.int 0 0, Value.ref 203, Value.int 102 0, Value.int 0 0, Value.ref 210, Value.int 104 0, Value.int 0 0, Value.ref 217, Value.int 108 0, Value.int 0 0, Value.ref 224, Value.int 119 0, Value.int 0 0, Value.ref 229] },
  { cls := Value.type "code", data := Data.fields #[Value.str (Str.ofString "<module>") 182, Value.str (Str.ofString "<module>") 183, Value.str (Str.ofString "/claim/cut.py") 184, Value.int 1 0, Value.int 0 0, Value.int 0 0, Value.int 0 0, Value.int 0 0, Value.ref 11, Value.bool false, Value.int 181 0, Value.ref 12, Value.none, Value.none, Value.none, Value.none, Value.int 185 0, Value.int 1 0, Value.str (Str.ofString "/claim/cut.py") 186] },
  { cls := Value.type "frame", slots := #[some (Value.ref 13), some (Value.ref 3), some (Value.ref 3), none, some (Value.str (Str.ofString "__main__") 164), none, some (Value.ref 0)] },
  { cls := Value.none, data := Data.fields #[] },
  (tm (look F 21)),
  { cls := Value.type "builtin_function_or_method", data := Data.fields #[Value.builtin "type.__prepare__", Value.type "type"] },
  { cls := Value.type "dict", data := Data.dict #[{ hash := PyData.keyHash P (Str.ofString "__module__"), key := Value.str (Str.ofString "__module__") 203, val := Value.str (Str.ofString "hillsight.errors") 194 }, { hash := PyData.keyHash P (Str.ofString "__qualname__"), key := Value.str (Str.ofString "__qualname__") 205, val := Value.str (Str.ofString "HillError") 204 }, { hash := PyData.keyHash P (Str.ofString "__firstlineno__"), key := Value.str (Str.ofString "__firstlineno__") 207, val := Value.int 5 206 }, { hash := PyData.keyHash P (Str.ofString "__static_attributes__"), key := Value.str (Str.ofString "__static_attributes__") 208, val := Value.ref 29 }] 4 },
  { cls := Value.type "tuple", data := Data.seq #[] },
  { cls := Value.none, data := Data.fields #[] },
  { cls := Value.type "code", data := Data.fields #[Value.str (Str.ofString "HillError") 198, Value.str (Str.ofString "HillError") 199, Value.str (Str.ofString "/claim/cut.py") 200, Value.int 5 0, Value.int 0 0, Value.int 0 0, Value.int 0 0, Value.int 0 0, Value.ref 25, Value.bool false, Value.int 181 0, Value.ref 26, Value.none, Value.none, Value.none, Value.none, Value.int 201 0, Value.int 5 0, Value.str (Str.ofString "/claim/cut.py") 202] },
  { cls := Value.type "frame", slots := #[some (Value.ref 27), some (Value.ref 3), some (Value.ref 24), none, some (Value.str (Str.ofString "hillsight.errors") 194), none, some (Value.ref 0)] },
  { cls := Value.type "super", data := Data.fields #[Value.ref 31, Value.ref 31, Value.ref 31] },
  { cls := Value.type "builtin_function_or_method", data := Data.fields #[Value.builtin "object.__init_subclass__", Value.ref 31] },
  { cls := Value.type "builtin_function_or_method", data := Data.fields #[Value.builtin "type.__prepare__", Value.type "type"] },
  { cls := Value.type "dict", data := Data.dict #[{ hash := PyData.keyHash P (Str.ofString "__module__"), key := Value.str (Str.ofString "__module__") 221, val := Value.str (Str.ofString "hillsight.errors") 194 }, { hash := PyData.keyHash P (Str.ofString "__qualname__"), key := Value.str (Str.ofString "__qualname__") 223, val := Value.str (Str.ofString "NoLand") 222 }, { hash := PyData.keyHash P (Str.ofString "__firstlineno__"), key := Value.str (Str.ofString "__firstlineno__") 225, val := Value.int 7 224 }, { hash := PyData.keyHash P (Str.ofString "__static_attributes__"), key := Value.str (Str.ofString "__static_attributes__") 226, val := Value.ref 42 }] 4 },
  { cls := Value.type "tuple", data := Data.seq #[] },
  { cls := Value.none, data := Data.fields #[] },
  { cls := Value.type "code", data := Data.fields #[Value.str (Str.ofString "NoLand") 216, Value.str (Str.ofString "NoLand") 217, Value.str (Str.ofString "/claim/cut.py") 218, Value.int 7 0, Value.int 0 0, Value.int 0 0, Value.int 0 0, Value.int 0 0, Value.ref 38, Value.bool false, Value.int 181 0, Value.ref 39, Value.none, Value.none, Value.none, Value.none, Value.int 219 0, Value.int 7 0, Value.str (Str.ofString "/claim/cut.py") 220] },
  { cls := Value.type "frame", slots := #[some (Value.ref 40), some (Value.ref 3), some (Value.ref 37), none, some (Value.str (Str.ofString "hillsight.errors") 194), none, some (Value.ref 0)] },
  { cls := Value.type "super", data := Data.fields #[Value.ref 44, Value.ref 44, Value.ref 44] },
  { cls := Value.type "builtin_function_or_method", data := Data.fields #[Value.builtin "object.__init_subclass__", Value.ref 44] },
  { cls := Value.type "builtin_function_or_method", data := Data.fields #[Value.builtin "type.__prepare__", Value.type "type"] },
  { cls := Value.type "dict", data := Data.dict #[{ hash := PyData.keyHash P (Str.ofString "__module__"), key := Value.str (Str.ofString "__module__") 237, val := Value.str (Str.ofString "hillsight.errors") 194 }, { hash := PyData.keyHash P (Str.ofString "__qualname__"), key := Value.str (Str.ofString "__qualname__") 239, val := Value.str (Str.ofString "NoHill") 238 }, { hash := PyData.keyHash P (Str.ofString "__firstlineno__"), key := Value.str (Str.ofString "__firstlineno__") 241, val := Value.int 9 240 }, { hash := PyData.keyHash P (Str.ofString "__static_attributes__"), key := Value.str (Str.ofString "__static_attributes__") 242, val := Value.ref 54 }] 4 },
  { cls := Value.type "tuple", data := Data.seq #[] },
  { cls := Value.none, data := Data.fields #[] },
  { cls := Value.type "code", data := Data.fields #[Value.str (Str.ofString "NoHill") 232, Value.str (Str.ofString "NoHill") 233, Value.str (Str.ofString "/claim/cut.py") 234, Value.int 9 0, Value.int 0 0, Value.int 0 0, Value.int 0 0, Value.int 0 0, Value.ref 50, Value.bool false, Value.int 181 0, Value.ref 51, Value.none, Value.none, Value.none, Value.none, Value.int 235 0, Value.int 9 0, Value.str (Str.ofString "/claim/cut.py") 236] },
  { cls := Value.type "frame", slots := #[some (Value.ref 52), some (Value.ref 3), some (Value.ref 49), none, some (Value.str (Str.ofString "hillsight.errors") 194), none, some (Value.ref 0)] },
  { cls := Value.type "super", data := Data.fields #[Value.ref 56, Value.ref 56, Value.ref 56] },
  { cls := Value.type "builtin_function_or_method", data := Data.fields #[Value.builtin "object.__init_subclass__", Value.ref 56] },
  { cls := Value.type "builtin_function_or_method", data := Data.fields #[Value.builtin "type.__prepare__", Value.type "type"] },
  { cls := Value.type "dict", data := Data.dict #[{ hash := PyData.keyHash P (Str.ofString "__module__"), key := Value.str (Str.ofString "__module__") 253, val := Value.str (Str.ofString "hillsight.errors") 194 }, { hash := PyData.keyHash P (Str.ofString "__qualname__"), key := Value.str (Str.ofString "__qualname__") 255, val := Value.str (Str.ofString "SameHill") 254 }, { hash := PyData.keyHash P (Str.ofString "__firstlineno__"), key := Value.str (Str.ofString "__firstlineno__") 257, val := Value.int 11 256 }, { hash := PyData.keyHash P (Str.ofString "__static_attributes__"), key := Value.str (Str.ofString "__static_attributes__") 258, val := Value.ref 66 }] 4 },
  { cls := Value.type "tuple", data := Data.seq #[] },
  { cls := Value.none, data := Data.fields #[] },
  { cls := Value.type "code", data := Data.fields #[Value.str (Str.ofString "SameHill") 248, Value.str (Str.ofString "SameHill") 249, Value.str (Str.ofString "/claim/cut.py") 250, Value.int 11 0, Value.int 0 0, Value.int 0 0, Value.int 0 0, Value.int 0 0, Value.ref 62, Value.bool false, Value.int 181 0, Value.ref 63, Value.none, Value.none, Value.none, Value.none, Value.int 251 0, Value.int 11 0, Value.str (Str.ofString "/claim/cut.py") 252] },
  { cls := Value.type "frame", slots := #[some (Value.ref 64), some (Value.ref 3), some (Value.ref 61), none, some (Value.str (Str.ofString "hillsight.errors") 194), none, some (Value.ref 0)] },
  { cls := Value.type "super", data := Data.fields #[Value.ref 68, Value.ref 68, Value.ref 68] },
  { cls := Value.type "builtin_function_or_method", data := Data.fields #[Value.builtin "object.__init_subclass__", Value.ref 68] },
  { cls := Value.type "builtin_function_or_method", data := Data.fields #[Value.builtin "type.__prepare__", Value.type "type"] },
  { cls := Value.type "dict", data := Data.dict #[{ hash := PyData.keyHash P (Str.ofString "__module__"), key := Value.str (Str.ofString "__module__") 269, val := Value.str (Str.ofString "hillsight.errors") 194 }, { hash := PyData.keyHash P (Str.ofString "__qualname__"), key := Value.str (Str.ofString "__qualname__") 271, val := Value.str (Str.ofString "TooHigh") 270 }, { hash := PyData.keyHash P (Str.ofString "__firstlineno__"), key := Value.str (Str.ofString "__firstlineno__") 273, val := Value.int 13 272 }, { hash := PyData.keyHash P (Str.ofString "__static_attributes__"), key := Value.str (Str.ofString "__static_attributes__") 274, val := Value.ref 78 }] 4 },
  { cls := Value.type "tuple", data := Data.seq #[] },
  { cls := Value.none, data := Data.fields #[] },
  { cls := Value.type "code", data := Data.fields #[Value.str (Str.ofString "TooHigh") 264, Value.str (Str.ofString "TooHigh") 265, Value.str (Str.ofString "/claim/cut.py") 266, Value.int 13 0, Value.int 0 0, Value.int 0 0, Value.int 0 0, Value.int 0 0, Value.ref 74, Value.bool false, Value.int 181 0, Value.ref 75, Value.none, Value.none, Value.none, Value.none, Value.int 267 0, Value.int 13 0, Value.str (Str.ofString "/claim/cut.py") 268] },
  { cls := Value.type "frame", slots := #[some (Value.ref 76), some (Value.ref 3), some (Value.ref 73), none, some (Value.str (Str.ofString "hillsight.errors") 194), none, some (Value.ref 0)] },
  { cls := Value.type "super", data := Data.fields #[Value.ref 80, Value.ref 80, Value.ref 80] },
  { cls := Value.type "builtin_function_or_method", data := Data.fields #[Value.builtin "object.__init_subclass__", Value.ref 80] },
  { cls := Value.type "builtin_function_or_method", data := Data.fields #[Value.builtin "type.__prepare__", Value.type "type"] },
  { cls := Value.type "dict", data := Data.dict #[{ hash := PyData.keyHash P (Str.ofString "__module__"), key := Value.str (Str.ofString "__module__") 285, val := Value.str (Str.ofString "hillsight.errors") 194 }, { hash := PyData.keyHash P (Str.ofString "__qualname__"), key := Value.str (Str.ofString "__qualname__") 287, val := Value.str (Str.ofString "NothingDone") 286 }, { hash := PyData.keyHash P (Str.ofString "__firstlineno__"), key := Value.str (Str.ofString "__firstlineno__") 289, val := Value.int 15 288 }, { hash := PyData.keyHash P (Str.ofString "__static_attributes__"), key := Value.str (Str.ofString "__static_attributes__") 290, val := Value.ref 90 }] 4 },
  { cls := Value.type "tuple", data := Data.seq #[] },
  { cls := Value.none, data := Data.fields #[] },
  { cls := Value.type "code", data := Data.fields #[Value.str (Str.ofString "NothingDone") 280, Value.str (Str.ofString "NothingDone") 281, Value.str (Str.ofString "/claim/cut.py") 282, Value.int 15 0, Value.int 0 0, Value.int 0 0, Value.int 0 0, Value.int 0 0, Value.ref 86, Value.bool false, Value.int 181 0, Value.ref 87, Value.none, Value.none, Value.none, Value.none, Value.int 283 0, Value.int 15 0, Value.str (Str.ofString "/claim/cut.py") 284] },
  { cls := Value.type "frame", slots := #[some (Value.ref 88), some (Value.ref 3), some (Value.ref 85), none, some (Value.str (Str.ofString "hillsight.errors") 194), none, some (Value.ref 0)] },
  { cls := Value.type "super", data := Data.fields #[Value.ref 92, Value.ref 92, Value.ref 92] },
  { cls := Value.type "builtin_function_or_method", data := Data.fields #[Value.builtin "object.__init_subclass__", Value.ref 92] },
  { cls := Value.none, data := Data.fields #[] },
  (tm (look F 101)),
  { cls := Value.none, data := Data.fields #[] },
  (tm (look F 108)),
  { cls := Value.none, data := Data.fields #[] },
  (tm (look F 115)),
  { cls := Value.none, data := Data.fields #[] },
  (tm (look F 122)),
  { cls := Value.none, data := Data.fields #[] },
  (tm (look F 129)),
  { cls := Value.none, data := Data.fields #[] },
  (tm (look F 136)),
  { cls := Value.none, data := Data.fields #[] },
  (tm (look F 143)),
  { cls := Value.type "tuple", data := Data.seq #[] },
  { cls := Value.type "builtin_function_or_method", data := Data.fields #[Value.builtin "type.__prepare__", Value.type "type"] },
  { cls := Value.type "dict", data := Data.dict #[{ hash := PyData.keyHash P (Str.ofString "__module__"), key := Value.str (Str.ofString "__module__") 375, val := Value.str (Str.ofString "hillsight.lands") 345 }, { hash := PyData.keyHash P (Str.ofString "__qualname__"), key := Value.str (Str.ofString "__qualname__") 377, val := Value.str (Str.ofString "Land") 376 }, { hash := PyData.keyHash P (Str.ofString "__firstlineno__"), key := Value.str (Str.ofString "__firstlineno__") 379, val := Value.int 55 378 }, { hash := PyData.keyHash P (Str.ofString "__init__"), key := Value.str (Str.ofString "__init__") 387, val := Value.ref 157 }, { hash := PyData.keyHash P (Str.ofString "told"), key := Value.str (Str.ofString "told") 394, val := Value.ref 164 }, { hash := PyData.keyHash P (Str.ofString "seen"), key := Value.str (Str.ofString "seen") 401, val := Value.ref 171 }, { hash := PyData.keyHash P (Str.ofString "moved"), key := Value.str (Str.ofString "moved") 407, val := Value.ref 176 }, { hash := PyData.keyHash P (Str.ofString "lift"), key := Value.str (Str.ofString "lift") 416, val := Value.ref 183 }, { hash := PyData.keyHash P (Str.ofString "back"), key := Value.str (Str.ofString "back") 425, val := Value.ref 190 }, { hash := PyData.keyHash P (Str.ofString "__static_attributes__"), key := Value.str (Str.ofString "__static_attributes__") 428, val := Value.ref 191 }] 10 },
  { cls := Value.type "tuple", data := Data.seq #[] },
  { cls := Value.none, data := Data.fields #[Value.int 57 0, Value.int 4 0, Value.ref 156, Value.int 61 0, Value.int 4 0, Value.ref 163, Value.int 64 0, Value.int 4 0, Value.ref 170, Value.int 67 0, Value.int 4 0, Value.ref 175, Value.int 81 0, Value.int 4 0, Value.ref 182, Value.int 88 0, Value.int 4 0, Value.ref 189] },
  { cls := Value.type "code", data := Data.fields #[Value.str (Str.ofString "Land") 370, Value.str (Str.ofString "Land") 371, Value.str (Str.ofString "/claim/cut.py") 372, Value.int 55 0, Value.int 0 0, Value.int 0 0, Value.int 0 0, Value.int 0 0, Value.ref 147, Value.bool false, Value.int 181 0, Value.ref 148, Value.none, Value.none, Value.none, Value.none, Value.int 373 0, Value.int 55 0, Value.str (Str.ofString "/claim/cut.py") 374] },
  { cls := Value.type "frame", slots := #[some (Value.ref 149), some (Value.ref 3), some (Value.ref 146), none, some (Value.str (Str.ofString "hillsight.lands") 345), none, some (Value.ref 0)] },
  { cls := Value.none, data := Data.fields #[] },
  (tm (look F 157)),
  { cls := Value.none, data := Data.fields #[] },
  (tm (look F 164)),
  { cls := Value.none, data := Data.fields #[] },
  (tm (look F 171)),
  { cls := Value.none, data := Data.fields #[] },
  (tm (look F 176)),
  { cls := Value.none, data := Data.fields #[] },
  (tm (look F 183)),
  { cls := Value.none, data := Data.fields #[] },
  (tm (look F 190)),
  { cls := Value.type "super", data := Data.fields #[Value.ref 193, Value.ref 193, Value.ref 193] },
  { cls := Value.type "builtin_function_or_method", data := Data.fields #[Value.builtin "object.__init_subclass__", Value.ref 193] },
  { cls := Value.none, data := Data.fields #[] },
  (tm (look F 204)),
  { cls := Value.none, data := Data.fields #[] },
  (tm (look F 211)),
  { cls := Value.none, data := Data.fields #[] },
  (tm (look F 218)),
  { cls := Value.none, data := Data.fields #[] },
  (tm (look F 225)),
  { cls := Value.none, data := Data.fields #[] },
  (tm (look F 230))]
def env12 : Env := { scope := PySem.Challenge.pw_uf050038_12.main.scope, locals := mainNs, globals := mainNs, cells := [], code := Value.ref 13, frame := some 14 }
def cod12 : Code := .body (behindTheImports PySem.Challenge.pw_uf050038_12) env12
noncomputable def hp12_0 (F : Params → Frag) : Params → Heap := fun P => cutH F mis12 15 P [(3, tr3 9 9 (Value.str (Str.ofString "__main__") 164)), (12, tr12 0)]
noncomputable def hp12_1 (F : Params → Frag) : Params → Heap := fun P => cutH F mis12 59 P [(3, tr3 13 13 (Value.str (Str.ofString "hillsight.errors") 194)), (12, tr12 12), (31, fun _ => ({ cls := Value.type "type", data := Data.cls { name := Str.ofString "HillError", bases := [Value.type "ValueError"], mro := [Value.ref 31, Value.type "ValueError", Value.type "Exception", Value.type "BaseException", Value.type "object"], ns := 30, qualname := Str.ofString "HillError", subclasses := [Value.ref 44, Value.ref 56] }, slots := #[some (Value.ref 22), none, some (Value.str (Str.ofString "HillError") 196), some (Value.str (Str.ofString "HillError") 204), some (Value.builtin "ValueError.__new__"), some (Value.bool true)] } : Obj))]
noncomputable def hp12_2 (F : Params → Frag) : Params → Heap := fun P => cutH F mis12 95 P [(3, tr3 16 16 (Value.str (Str.ofString "hillsight.slopes") 294)), (12, tr12 21)]
noncomputable def hp12_3 (F : Params → Frag) : Params → Heap := fun P => cutH F mis12 198 P [(3, tr3 26 26 (Value.str (Str.ofString "law_uf050038_12") 436)), (12, tr12 45)]
noncomputable def hp12_4 (F : Params → Frag) : Params → Heap := fun P => cutH F mis12 231 P []
def sts12_1 : List Stmt := ((PySem.Challenge.pw_uf050038_12.main.body.drop 0).take 5)
def sts12_2 : List Stmt := ((PySem.Challenge.pw_uf050038_12.main.body.drop 5).take 4)
def sts12_3 : List Stmt := ((PySem.Challenge.pw_uf050038_12.main.body.drop 9).take 13)
def sts12_4 : List Stmt := ((PySem.Challenge.pw_uf050038_12.main.body.drop 22).take 5)
theorem cutK {p q : Program} {loose : List Str} {Xt : Shared → Bool} {α : Type} {Yf : Shared → α} {Ya : World → α} {N : Nat} {g0 : Bool} {Ha H1 H2 H3 H4 : Params → Heap} {ka k1 k2 k3 k4 m₀ na nb n1 n2 n3 n4 nf M : Nat} {ann : Option Value} {b l1 l2 l3 l4 : List Stmt} {env : Env} {c : Code} {q0 pa pb p1 p2 p3 p4 : Pos}
    (open_ : ∀ w : World, (fencedOpening treeTable p w N).map (fun s => (s.heap, s.gens, s.drawn, s.toks)) = some (boot_heap w.params, Array.mk [], boot_drawn, boot_toks))
    (size : ∀ w : World, ((boot_heap w.params).isNs mainGlobals && (Array.mk [] : Array GenState).size == 0, (boot_heap w.params).objs.size, (boot_heap w.params).nsMap mainGlobals "__annotations__") = (true, m₀, ann))
    (pre : ∀ (w : World) (os : OsState), topGo treeTable p w m₀ ann na ⟨boot_heap w.params, Array.mk [], boot_drawn, boot_toks, os⟩ (topStub p) = some (⟨Ha w.params, Array.mk [], boot_drawn, ka, os⟩, ⟨denote treeTable (.body b env), c, pa, [topFrame q0]⟩))
    (block : ∀ (w : World) (os : OsState), segRun treeTable p w m₀ ann 1 nb ⟨Ha w.params, Array.mk [], boot_drawn, ka, os⟩ (blockOf b env c pa [topFrame q0]) = some (.next, ⟨Ha w.params, Array.mk [], boot_drawn, ka, os⟩, c, pb))
    (hb : b = l1 ++ (l2 ++ (l3 ++ (l4 ++ []))))
    (s1 : ∀ (w : World) (os : OsState), segRun treeTable p w m₀ ann 1 n1 ⟨Ha w.params, Array.mk [], boot_drawn, ka, os⟩ (piecesOf l1 env c pb [topFrame q0]) = some (.next, ⟨H1 w.params, Array.mk [], boot_drawn, k1, os⟩, c, p1))
    (s2 : ∀ (w : World) (os : OsState), segRun treeTable p w m₀ ann 1 n2 ⟨H1 w.params, Array.mk [], boot_drawn, k1, os⟩ (piecesOf l2 env c p1 [topFrame q0]) = some (.next, ⟨H2 w.params, Array.mk [], boot_drawn, k2, os⟩, c, p2))
    (s3 : ∀ (w : World) (os : OsState), segRun treeTable p w m₀ ann 1 n3 ⟨H2 w.params, Array.mk [], boot_drawn, k2, os⟩ (piecesOf l3 env c p2 [topFrame q0]) = some (.next, ⟨H3 w.params, Array.mk [], boot_drawn, k3, os⟩, c, p3))
    (s4 : ∀ (w : World) (os : OsState), segRun treeTable p w m₀ ann 1 n4 ⟨H3 w.params, Array.mk [], boot_drawn, k3, os⟩ (piecesOf l4 env c p3 [topFrame q0]) = some (.next, ⟨H4 w.params, Array.mk [], boot_drawn, k4, os⟩, c, p4))
    (fin : ∀ (w : World) (os : OsState), topRun treeTable p w m₀ ann nf ⟨H4 w.params, Array.mk [], boot_drawn, k4, os⟩ ⟨doneF .next, c, p4, [topFrame q0]⟩ = some ⟨H4 w.params, Array.mk [], boot_drawn, k4, os⟩)
    (hM : M = na + (nb + (n1 + (n2 + (n3 + (n4 + nf)))))) (le : Nat.ble M N = true)
    (looks1 : ∀ (w : World) (os : OsState), (staticsOk (importedModules p.main.body) (boot_heap w.params) (H4 w.params) && namesBound p (H4 w.params) && gensDone ⟨H4 w.params, Array.mk [], boot_drawn, k4, os⟩ && laidKept (boot_heap w.params) (H4 w.params)) = true)
    (looks2 : ∀ (w : World) (os : OsState), openSeen q loose (importedModules p.main.body) Xt g0 ⟨H4 w.params, Array.mk [], boot_drawn, k4, os⟩ = openGood q loose)
    (looks3 : ∀ (w : World) (os : OsState), Yf ⟨H4 w.params, Array.mk [], boot_drawn, k4, os⟩ = Ya w) : LeftO p q loose Xt Yf Ya N g0 := by
  refine LeftO.of_pieces open_ size (fun w os => ?_) le (fun w => funext fun os => by rw [looks1, looks2, looks3])
  subst hM
  refine go_top (pre w os) (piece_block (block w os) ?_)
  rw [hb]
  exact (piece_app (s1 w os) (piece_app (s2 w os) (piece_app (s3 w os) (piece_app (s4 w os) (piece_nil (fin w os))))))
def domA {A B C : Prop} (_ : A ∧ B → C) : Prop := A
theorem both_of {A B C : Prop} (f : A ∧ B → C) (a : domA f) (b : B) : C := f ⟨a, b⟩
set_option hygiene false in
local macro_rules | `(tactic| o_law) => `(tactic| refine holds_law (by decide +kernel) fun said => ?_)
set_option hygiene false in
local macro_rules | `(tactic| o_head $H:term) => `(tactic| (refine holds_open (q := Mine.q12) (loose := [Str.ofString "MOST_HEIGHT"]) (Xt := fun s => xlAt Mine.q12 [(Str.ofString "MOST_HEIGHT", WData.int 1000000000000000000)] s && recOk (RowW.records (PySem.W.OpenRow.toRowW (PySem.W.OpenLaw.row PySem.Challenge.rw_uf050038_12))) s) (XP := XL Mine.q12 [(Str.ofString "MOST_HEIGHT", WData.int 1000000000000000000)]) (Yf := Hook.obs $H) (Ya := Hook.val $H) (YP := Hook.says $H) (N := 4306) (And.left ?hc) (Hook.of $H) (Hook.keeps $H) (fun s e => xl_of s (Bool.and_eq_true_iff.mp e).1) XL.keeps (by rfl) (by rfl) (by rfl) (fun s e => recFacts_of (Bool.and_eq_true_iff.mp e).2) (by rfl) (by first | assumption | decide +kernel) (by decide +kernel) ⟨rfl, rfl, rfl, rfl, rfl, by decide +kernel⟩ ?hw (And.right ?hc); all_goals (try clear said)))
open_top hd12 for PySem.Challenge.rw_uf050038_12
theorem ts12_1 (w : World) (os : OsState) : segRun treeTable (PySem.W.OpenLaw.row PySem.Challenge.rw_uf050038_12).prog w 11 (some (Value.ref 6)) 1 651 (⟨hp12_0 Mine.hd12.heap_1 w.params, Array.mk [], boot_drawn, 187, os⟩ : Shared) (piecesOf sts12_1 env12 cod12 { line := 0, col := 0, endLine := 0, endCol := 0 } [topFrame { line := 0, col := 0, endLine := 0, endCol := 0 }]) = some (.next, (⟨hp12_1 Mine.hd12.heap_1 w.params, Array.mk [], boot_drawn, 246, os⟩ : Shared), cod12, { line := 9, col := 0, endLine := 10, endCol := 8 }) := by kernel_rfl
theorem ts12_2 (w : World) (os : OsState) : segRun treeTable (PySem.W.OpenLaw.row PySem.Challenge.rw_uf050038_12).prog w 11 (some (Value.ref 6)) 1 649 (⟨hp12_1 Mine.hd12.heap_1 w.params, Array.mk [], boot_drawn, 246, os⟩ : Shared) (piecesOf sts12_2 env12 cod12 { line := 9, col := 0, endLine := 10, endCol := 8 } [topFrame { line := 0, col := 0, endLine := 0, endCol := 0 }]) = some (.next, (⟨hp12_2 Mine.hd12.heap_1 w.params, Array.mk [], boot_drawn, 296, os⟩ : Shared), cod12, { line := 17, col := 0, endLine := 17, endCol := 8 }) := by kernel_rfl
theorem ts12_3 (w : World) (os : OsState) : segRun treeTable (PySem.W.OpenLaw.row PySem.Challenge.rw_uf050038_12).prog w 11 (some (Value.ref 6)) 1 647 (⟨hp12_2 Mine.hd12.heap_1 w.params, Array.mk [], boot_drawn, 296, os⟩ : Shared) (piecesOf sts12_3 env12 cod12 { line := 17, col := 0, endLine := 17, endCol := 8 } [topFrame { line := 0, col := 0, endLine := 0, endCol := 0 }]) = some (.next, (⟨hp12_3 Mine.hd12.heap_1 w.params, Array.mk [], boot_drawn, 438, os⟩ : Shared), cod12, { line := 93, col := 0, endLine := 93, endCol := 8 }) := by kernel_rfl
theorem ts12_4 (w : World) (os : OsState) : segRun treeTable (PySem.W.OpenLaw.row PySem.Challenge.rw_uf050038_12).prog w 11 (some (Value.ref 6)) 1 147 (⟨hp12_3 Mine.hd12.heap_1 w.params, Array.mk [], boot_drawn, 438, os⟩ : Shared) (piecesOf sts12_4 env12 cod12 { line := 93, col := 0, endLine := 93, endCol := 8 } [topFrame { line := 0, col := 0, endLine := 0, endCol := 0 }]) = some (.next, (⟨hp12_4 Mine.hd12.heap_1 w.params, Array.mk [], boot_drawn, 476, os⟩ : Shared), cod12, { line := 119, col := 0, endLine := 142, endCol := 73 }) := by kernel_rfl
theorem left12 : domA Mine.hd12 := by
  delta domA
  exact cutK (Ha := hp12_0 Mine.hd12.heap_1) (ka := 187) (m₀ := 11) (ann := some (Value.ref 6)) (na := 12) (nb := 1) (nf := 2) (b := behindTheImports PySem.Challenge.pw_uf050038_12) (env := env12) (c := cod12) (q0 := { line := 0, col := 0, endLine := 0, endCol := 0 }) (pa := { line := 0, col := 0, endLine := 0, endCol := 0 }) (pb := { line := 0, col := 0, endLine := 0, endCol := 0 }) (H1 := hp12_1 Mine.hd12.heap_1) (k1 := 246) (n1 := 651) (l1 := sts12_1) (p1 := { line := 9, col := 0, endLine := 10, endCol := 8 }) (H2 := hp12_2 Mine.hd12.heap_1) (k2 := 296) (n2 := 649) (l2 := sts12_2) (p2 := { line := 17, col := 0, endLine := 17, endCol := 8 }) (H3 := hp12_3 Mine.hd12.heap_1) (k3 := 438) (n3 := 647) (l3 := sts12_3) (p3 := { line := 93, col := 0, endLine := 93, endCol := 8 }) (H4 := hp12_4 Mine.hd12.heap_1) (k4 := 476) (n4 := 147) (l4 := sts12_4) (p4 := { line := 119, col := 0, endLine := 142, endCol := 73 }) (M := 2109) (boot_open (by kernel_rfl) (by decide +kernel) (fun s => by kernel_rfl)) (by intro w; kernel_rfl) (by intro w os; kernel_rfl) (by intro w os; kernel_rfl) (by kernel_rfl) ts12_1 ts12_2 ts12_3 ts12_4 (by intro w os; kernel_rfl) (by kernel_rfl) (by decide +kernel) (by intro w os; kernel_rfl) (by intro w os; kernel_rfl) (by intro w os; kernel_rfl)
end Mine
end

set_option autoImplicit false
namespace Mine
open PySem PySem.W PySem.Calls PySem.Spec PyProof.Rows
set_option Elab.async false
set_option linter.unusedSimpArgs false
set_option linter.unusedVariables false

noncomputable abbrev pgo (prog : Program) (w : World) (p : Program) (loose : List Str) (mean : ExcName → Option Value) (mg mb : Str → Option Value) : Pg := ⟨prog, w, Mine.hd12.heap_1 w.params, p, loose, mean, mg, mb⟩
section
variable {prog : Program} {w : World} {p : Program} {loose : List Str} {mean : ExcName → Option Value} {mg mb : Str → Option Value} {lev : Nat} {ns : List Int}
set_option maxRecDepth 100000
set_option maxHeartbeats 8000000

theorem gl_len : (pgo prog w p loose mean mg mb).gl "len" = some (.builtin "len") := by kernel_rfl
theorem gl_isinstance : (pgo prog w p loose mean mg mb).gl "isinstance" = some (.builtin "isinstance") := by kernel_rfl
theorem gl_all : (pgo prog w p loose mean mg mb).gl "all" = some (.builtin "all") := by kernel_rfl
theorem gl_range : (pgo prog w p loose mean mg mb).gl "range" = some (.type "range") := by kernel_rfl
theorem gl_list : (pgo prog w p loose mean mg mb).gl "list" = some (.type "list") := by kernel_rfl
theorem gl_int : (pgo prog w p loose mean mg mb).gl "int" = some (.type "int") := by kernel_rfl
theorem gl_bool : (pgo prog w p loose mean mg mb).gl "bool" = some (.type "bool") := by kernel_rfl
theorem gl_tuple : (pgo prog w p loose mean mg mb).gl "tuple" = some (.type "tuple") := by kernel_rfl
theorem gl_ValueError : (pgo prog w p loose mean mg mb).gl "ValueError" = some (.type "ValueError") := by kernel_rfl
theorem gl_HillError : (pgo prog w p loose mean mg mb).gl "HillError" = some (.ref 31) := by kernel_rfl
theorem gl_NoLand : (pgo prog w p loose mean mg mb).gl "NoLand" = some (.ref 44) := by kernel_rfl
theorem gl_NoHill : (pgo prog w p loose mean mg mb).gl "NoHill" = some (.ref 56) := by kernel_rfl
theorem gl_SameHill : (pgo prog w p loose mean mg mb).gl "SameHill" = some (.ref 68) := by kernel_rfl
theorem gl_TooHigh : (pgo prog w p loose mean mg mb).gl "TooHigh" = some (.ref 80) := by kernel_rfl
theorem gl_NothingDone : (pgo prog w p loose mean mg mb).gl "NothingDone" = some (.ref 92) := by kernel_rfl
theorem gl_slope : (pgo prog w p loose mean mg mb).gl "slope" = some (.ref 101) := by kernel_rfl
theorem gl_steeper : (pgo prog w p loose mean mg mb).gl "steeper" = some (.ref 108) := by kernel_rfl
theorem gl_need_hill : (pgo prog w p loose mean mg mb).gl "need_hill" = some (.ref 115) := by kernel_rfl
theorem gl_seen_later : (pgo prog w p loose mean mg mb).gl "seen_later" = some (.ref 122) := by kernel_rfl
theorem gl_sights : (pgo prog w p loose mean mg mb).gl "sights" = some (.ref 129) := by kernel_rfl
theorem gl_is_height : (pgo prog w p loose mean mg mb).gl "is_height" = some (.ref 136) := by kernel_rfl
theorem gl_checked : (pgo prog w p loose mean mg mb).gl "checked" = some (.ref 143) := by kernel_rfl
theorem gl_Land : (pgo prog w p loose mean mg mb).gl "Land" = some (.ref 193) := by kernel_rfl
theorem gl_sole : (pgo prog w p loose mean mg mb).gl "_law_sole" = some (.ref 204) := by kernel_rfl
theorem gl_whole : (pgo prog w p loose mean mg mb).gl "_law_whole" = some (.ref 211) := by kernel_rfl
theorem gl_cell_at : (pgo prog w p loose mean mg mb).gl "_law_cell_at" = some (.ref 218) := by kernel_rfl
theorem gl_refused : (pgo prog w p loose mean mg mb).gl "_law_refused" = some (.ref 225) := by kernel_rfl
theorem gl_MOST_HILLS : (pgo prog w p loose mean mg mb).gl "MOST_HILLS" = some (.int 200 347) := by kernel_rfl
theorem gl_MOST_HEIGHT : (pgo prog w p loose mean mg mb).gl "MOST_HEIGHT" = some (.int 1000000000000000000 351) := by kernel_rfl
theorem gl__wall : (pgo prog w p loose mean mg mb).gl "_wall" = some (.ref 21) := by kernel_rfl
theorem exm_NoLand_HillError : exmOne (pgo prog w p loose mean mg mb).K (.ref 44) (.ref 31) = some true := by kernel_rfl
theorem exm_NoLand_NoLand : exmOne (pgo prog w p loose mean mg mb).K (.ref 44) (.ref 44) = some true := by kernel_rfl
theorem exm_NoLand_NoHill : exmOne (pgo prog w p loose mean mg mb).K (.ref 44) (.ref 56) = some false := by kernel_rfl
theorem exm_NoLand_SameHill : exmOne (pgo prog w p loose mean mg mb).K (.ref 44) (.ref 68) = some false := by kernel_rfl
theorem exm_NoLand_TooHigh : exmOne (pgo prog w p loose mean mg mb).K (.ref 44) (.ref 80) = some false := by kernel_rfl
theorem exm_NoLand_NothingDone : exmOne (pgo prog w p loose mean mg mb).K (.ref 44) (.ref 92) = some false := by kernel_rfl
theorem exm_NoHill_HillError : exmOne (pgo prog w p loose mean mg mb).K (.ref 56) (.ref 31) = some true := by kernel_rfl
theorem exm_NoHill_NoLand : exmOne (pgo prog w p loose mean mg mb).K (.ref 56) (.ref 44) = some false := by kernel_rfl
theorem exm_NoHill_NoHill : exmOne (pgo prog w p loose mean mg mb).K (.ref 56) (.ref 56) = some true := by kernel_rfl
theorem exm_NoHill_SameHill : exmOne (pgo prog w p loose mean mg mb).K (.ref 56) (.ref 68) = some false := by kernel_rfl
theorem exm_NoHill_TooHigh : exmOne (pgo prog w p loose mean mg mb).K (.ref 56) (.ref 80) = some false := by kernel_rfl
theorem exm_NoHill_NothingDone : exmOne (pgo prog w p loose mean mg mb).K (.ref 56) (.ref 92) = some false := by kernel_rfl
theorem exm_SameHill_HillError : exmOne (pgo prog w p loose mean mg mb).K (.ref 68) (.ref 31) = some true := by kernel_rfl
theorem exm_SameHill_NoLand : exmOne (pgo prog w p loose mean mg mb).K (.ref 68) (.ref 44) = some false := by kernel_rfl
theorem exm_SameHill_NoHill : exmOne (pgo prog w p loose mean mg mb).K (.ref 68) (.ref 56) = some false := by kernel_rfl
theorem exm_SameHill_SameHill : exmOne (pgo prog w p loose mean mg mb).K (.ref 68) (.ref 68) = some true := by kernel_rfl
theorem exm_SameHill_TooHigh : exmOne (pgo prog w p loose mean mg mb).K (.ref 68) (.ref 80) = some false := by kernel_rfl
theorem exm_SameHill_NothingDone : exmOne (pgo prog w p loose mean mg mb).K (.ref 68) (.ref 92) = some false := by kernel_rfl
theorem exm_TooHigh_HillError : exmOne (pgo prog w p loose mean mg mb).K (.ref 80) (.ref 31) = some true := by kernel_rfl
theorem exm_TooHigh_NoLand : exmOne (pgo prog w p loose mean mg mb).K (.ref 80) (.ref 44) = some false := by kernel_rfl
theorem exm_TooHigh_NoHill : exmOne (pgo prog w p loose mean mg mb).K (.ref 80) (.ref 56) = some false := by kernel_rfl
theorem exm_TooHigh_SameHill : exmOne (pgo prog w p loose mean mg mb).K (.ref 80) (.ref 68) = some false := by kernel_rfl
theorem exm_TooHigh_TooHigh : exmOne (pgo prog w p loose mean mg mb).K (.ref 80) (.ref 80) = some true := by kernel_rfl
theorem exm_TooHigh_NothingDone : exmOne (pgo prog w p loose mean mg mb).K (.ref 80) (.ref 92) = some false := by kernel_rfl
theorem exm_NothingDone_HillError : exmOne (pgo prog w p loose mean mg mb).K (.ref 92) (.ref 31) = some true := by kernel_rfl
theorem exm_NothingDone_NoLand : exmOne (pgo prog w p loose mean mg mb).K (.ref 92) (.ref 44) = some false := by kernel_rfl
theorem exm_NothingDone_NoHill : exmOne (pgo prog w p loose mean mg mb).K (.ref 92) (.ref 56) = some false := by kernel_rfl
theorem exm_NothingDone_SameHill : exmOne (pgo prog w p loose mean mg mb).K (.ref 92) (.ref 68) = some false := by kernel_rfl
theorem exm_NothingDone_TooHigh : exmOne (pgo prog w p loose mean mg mb).K (.ref 92) (.ref 80) = some false := by kernel_rfl
theorem exm_NothingDone_NothingDone : exmOne (pgo prog w p loose mean mg mb).K (.ref 92) (.ref 92) = some true := by kernel_rfl
theorem xcf_NoLand : XcFacts (pgo prog w p loose mean mg mb).K 44 := ⟨by kernel_rfl, by kernel_rfl, by kernel_rfl, by kernel_rfl, by kernel_rfl, by kernel_rfl, by kernel_rfl⟩
theorem kit_NoLand_HillError : kitOne (pgo prog w p loose mean mg mb).K (.ref 44) (.ref 31) = some true := by kernel_rfl
theorem kit_NoLand_NoLand : kitOne (pgo prog w p loose mean mg mb).K (.ref 44) (.ref 44) = some true := by kernel_rfl
theorem kit_NoLand_NoHill : kitOne (pgo prog w p loose mean mg mb).K (.ref 44) (.ref 56) = some false := by kernel_rfl
theorem kit_NoLand_SameHill : kitOne (pgo prog w p loose mean mg mb).K (.ref 44) (.ref 68) = some false := by kernel_rfl
theorem kit_NoLand_TooHigh : kitOne (pgo prog w p loose mean mg mb).K (.ref 44) (.ref 80) = some false := by kernel_rfl
theorem kit_NoLand_NothingDone : kitOne (pgo prog w p loose mean mg mb).K (.ref 44) (.ref 92) = some false := by kernel_rfl
theorem kit_NoLand_VE : kitOne (pgo prog w p loose mean mg mb).K (.ref 44) (.type "ValueError") = some true := by kernel_rfl
local macro_rules | `(tactic| walk_at "gl") => `(tactic| (simp only [gl_len, gl_isinstance, gl_all, gl_range, gl_list, gl_int, gl_bool, gl_tuple, gl_ValueError, gl_HillError, gl_NoLand, gl_NoHill, gl_SameHill, gl_TooHigh, gl_NothingDone, gl_slope, gl_steeper, gl_need_hill, gl_seen_later, gl_sights, gl_is_height, gl_checked, gl_Land, gl_sole, gl_whole, gl_cell_at, gl_refused, gl_MOST_HILLS, gl_MOST_HEIGHT, gl__wall]; first | done | rfl))
local macro_rules | `(tactic| walk_at "nm") => `(tactic| first | (with_reducible assumption) | (with_reducible exact setN_same) | ((with_reducible refine Eq.trans (setN_ne ?_) ?_); rfl; walk_at "nm") | ((with_reducible first | refine Eq.trans bind_c ?_ | refine Eq.trans bind_n ?_ | refine Eq.trans all_c ?_ | refine Eq.trans all_n ?_); walk_at "nm") | (refine Eq.trans (compLoc_eq (by decide +kernel)) ?_; walk_at "nm") | (simp only [setN, setAll, bindV, ofString_inj, String.reduceEq, if_true, if_false]; first | done | with_reducible rfl | with_reducible assumption))
local macro_rules | `(tactic| walk_at "hp") => `(tactic| first | with_reducible assumption | exact app_new | (refine app_get ?_; walk_at "hp") | with_reducible rfl | (simp; done) | rfl)
local macro_rules | `(tactic| walk_at "cx") => `(tactic| with_reducible assumption)
local macro_rules | `(tactic| walk_at "vc") => `(tactic| first
  | (show E _ _ _ _ _ _; first | refine e_name (by walk_at "nm") ?_ | refine e_int ?_ | refine e_bin ?_ | refine e_sub rfl ?_ | refine e_cmp rfl ?_ | refine e_callF (by walk_at "cx") (by walk_at "gl") (by kernel_rfl!) (by kernel_rfl) rfl ?_ | refine e_callB (by walk_at "cx") (by walk_at "gl") (by kernel_rfl) rfl ?_ | refine e_callT (by walk_at "cx") (by walk_at "gl") (by kernel_rfl) rfl ?_ | refine e_glob (by walk_at "cx") (by kernel_rfl) (by walk_at "gl") ?_ | refine e_tuple ?_ | refine e_boolop ?_ | refine e_un ?_ | refine e_cmp2 rfl ?_ | refine e_list ?_ | refine e_bool ?_ | refine e_str ?_ | refine e_none ?_ | refine e_append rfl rfl rfl ?_ | refine e_comp (by walk_at "cx") (by kernel_rfl) rfl ?_ | refine e_slice ?_ | refine e_attr (by walk_at "cx") ?_ | refine e_meth (by walk_at "cx") rfl rfl rfl rfl ?_ | refine e_callK (by walk_at "cx") (by walk_at "gl") (by kernel_rfl) (by kernel_rfl) rfl ?_ | refine e_dictI ?_)
  | (show Sz _ _; refine sz rfl ?_)
  | (show Lst _ _ _; refine lst_ref (by walk_at "hp") ?_)
  | (show Es _ _ _ _ _ _; first | refine es_cons rfl ?_ | refine es_nil ?_)
  | (show Ss _ _ _ _ _ _; first | refine ss_asg ?_ | refine ss_expr ?_ | refine ss_ret ?_ | refine ss_nil ?_ | refine ss_raise ?_)
  | (show S _ _ _ _ _ _; first | refine s_comp (by walk_at "cx") (by kernel_rfl) (by kernel_rfl) rfl ?_ | refine s_asg (by walk_at "cx") rfl (by kernel_rfl) ?_ | refine s_asgS rfl ?_ | refine s_ret ?_ | refine s_expr rfl ?_ | refine s_raise (by walk_at "cx") (by walk_at "gl") (by kernel_rfl) (by kernel_rfl) (by kernel_rfl) rfl ?_ | refine s_asgA (by walk_at "cx") rfl ?_)
  | (show Bin _ _ _ _ _ _ _ _; first | refine bin_add ?_ | refine bin_sub ?_ | refine bin_mul ?_ ?_ | refine bin_mod ?_ ?_ | refine bin_div ?_ ?_ | refine bin_pow18 ?_ | refine bin_lists (by walk_at "hp") (by walk_at "hp") ?_ ?_)
  | (show Cmp _ _ _ _ _ _ _ _; first | refine cmp_lt ?_ | refine cmp_gt ?_ | refine cmp_le ?_ | refine cmp_eq ?_)
  | (show Tru _ _ _ _ _ _; refine tru_bool ?_)
  | (show B _ _ _ _ _ _; first | refine b_cmp rfl ?_ | refine b_not ?_ | refine b_boolop ?_ | refine b_plain rfl ?_)
  | (show BL _ _ _ _ _ _ _; first | refine bl_or ?_ | refine bl_or_nil ?_)
  | (show EL _ _ _ _ _ _ _; first | refine el_one ?_ | refine el_and ?_)
  | (show Un _ _ _ _ _ _ _; first | refine un_not ?_ | refine un_neg ?_)
  | (show Sub _ _ _ _ _ _ _; refine sb_scr (by walk_at "cx") ?_ (by with_reducible assumption) ?_)
  | (show CB _ _ _ _ _ _ _; first | refine isi_ii ?_ | refine isi_ib ?_ | refine isi_bi ?_ | refine isi_bb ?_ | refine isi_ti ?_ | refine isi_tl ?_ | refine isi_ni ?_ | refine isi_nl ?_ | refine isi_si ?_ | refine isi_sl ?_ | refine isi_il ?_ | refine isi_rl (by walk_at "hp") ?_ | refine isi_ri (by walk_at "hp") ?_ | refine cb_len_scr (by walk_at "cx") ?_ | refine cb_append (by walk_at "hp") ?_ ?_)
  | (show CT _ _ _ _ _ _ _; first | refine ct_int ?_ | refine ct_list_ref (by walk_at "hp") ?_ ?_ | refine ct_tuple (by walk_at "hp") ?_ ?_)
  | (show If _ _ _; first | refine if_t ?_ | refine if_f ?_)
  | (show Hd _ _ _ _ _ _ _; refine hd_hit1 (by walk_at "cx") (by walk_at "gl") (by first | exact exm_NoLand_HillError | exact exm_NoLand_NoLand | exact exm_NoHill_HillError | exact exm_NoHill_NoHill | exact exm_SameHill_HillError | exact exm_SameHill_SameHill | exact exm_TooHigh_HillError | exact exm_TooHigh_TooHigh | exact exm_NothingDone_HillError | exact exm_NothingDone_NothingDone) (by kernel_rfl) (by kernel_rfl) (fun _ _ => ?_))
  | (show Opt _ _ _ _ _ _; first | refine opt_none ?_ | refine opt_some ?_)
  | (show Slc _ _ _ _ _ _; refine slc_ref (by walk_at "hp") ?_ ?_)
  | (show Rng _ _; refine rng1 ?_ ?_))
local macro_rules | `(tactic| walk_at "side") => `(tactic| first | assumption | (refine Side.mk ?_; first | assumption | decide | omega | exact .inr (by decide) | exact .inl (by decide) | exact .inr (by omega) | exact .inl (by omega) | (simp only [List.length_map, List.length_append, List.length_cons, List.length_nil, sizeLine] <;> omega)))

theorem whole_ok {X : Value → List O → Prop} {Q : V → List O → Prop} {hp : List O} {a : Int} (h : Q (.bool true) hp) : CallOK (pgo prog w p loose mean mg mb) (lev + 1) true ns 211 [.int a] hp X Q := by
  refine fn_run (xs := ["_law_found"]) (fnAt_of rfl (by kernel_rfl) (fn1 fun _ => rfl) (by decide) (by decide) rfl rfl rfl) rfl (by decide +kernel) fun c hc => ?_
  repeat' walk_at "vc"
  exact h

def cell (ns : List Int) (k : Int) : Int := (ns[k.toNat]?).getD 0
theorem cell_at_ok {X : Value → List O → Prop} {Q : V → List O → Prop} {hp : List O} {k : Int} (hn : ns.length < 2 ^ 62) (h0 : Side (0 ≤ k)) (h : Q (.int (cell ns k)) hp) : CallOK (pgo prog w p loose mean mg mb) (lev + 1) true ns 218 [.scr, .int k] hp X Q := by
  refine fn_run (xs := ["_law_script", "_law_k"]) (fnAt_of rfl (by kernel_rfl) (fn2 fun _ _ => rfl) (by decide) (by decide) rfl rfl rfl) rfl (by decide +kernel) fun c hc => ?_
  repeat' walk_at "vc"
  refine ss_if ?_
  repeat' walk_at "vc"
  have h0' := h0.h
  refine if_decide (fun q => ?_) (fun q => ?_)
  · have e : ns[k.toNat]? = some (cell ns k) := by
      unfold cell
      rw [List.getElem?_eq_getElem (by omega)]
      rfl
    repeat' walk_at "vc"
    · exact h0
    · exact h
  · have e : cell ns k = 0 := by
      unfold cell
      rw [List.getElem?_eq_none (by omega)]
      rfl
    repeat' walk_at "vc"
    rw [e] at h
    exact h

theorem sole_ok {X : Value → List O → Prop} {Q : V → List O → Prop} {hp : List O} {i : Nat} {D : Addr} {b1 b2 b3 b4 b5 qt : Bool} (e : hp[i]? = some (.exn D)) (f : XcFacts (pgo prog w p loose mean mg mb).K D)
    (k1 : kitOne (pgo prog w p loose mean mg mb).K (.ref D) (.ref 44) = some b1) (k2 : kitOne (pgo prog w p loose mean mg mb).K (.ref D) (.ref 56) = some b2) (k3 : kitOne (pgo prog w p loose mean mg mb).K (.ref D) (.ref 68) = some b3)
    (k4 : kitOne (pgo prog w p loose mean mg mb).K (.ref D) (.ref 80) = some b4) (k5 : kitOne (pgo prog w p loose mean mg mb).K (.ref D) (.ref 92) = some b5) (k6 : kitOne (pgo prog w p loose mean mg mb).K (.ref D) (.ref 31) = some true) (k7 : kitOne (pgo prog w p loose mean mg mb).K (.ref D) (.type "ValueError") = some true)
    (h1 : decide ((0 : Int) + (if b1 = true then 1 else 0) + (if b2 = true then 1 else 0) + (if b3 = true then 1 else 0) + (if b4 = true then 1 else 0) + (if b5 = true then 1 else 0) = 1) = true) (h : Q (.bool true) hp) : CallOK (pgo prog w p loose mean mg mb) (lev + 1) qt ns 204 [.ref i] hp X Q := by
  refine fn_run (xs := ["_law_error"]) (fnAt_of rfl (by kernel_rfl) (fn1 fun _ => rfl) (by decide) (by decide) rfl rfl rfl) rfl (by decide +kernel) fun c hc => ?_
  repeat' (first | walk_at "vc" | refine isi_exn (by walk_at "cx") e f (by assumption) ?_)
  rw [h1]
  repeat' (first | walk_at "vc" | refine isi_exn (by walk_at "cx") e f (by assumption) ?_)
  exact h

def hgt : V → Bool
  | .int a => decide (-1000000000000000000 ≤ a) && decide (a ≤ 1000000000000000000)
  | _ => false
theorem is_height_ok {X : Value → List O → Prop} {Q : V → List O → Prop} {hp : List O} {v : V} {qt : Bool} (hv : Plain hp v) (h : Q (.bool (hgt v)) hp) : CallOK (pgo prog w p loose mean mg mb) (lev + 1) qt ns 136 [v] hp X Q := by
  refine fn_run (xs := ["thing"]) (fnAt_of rfl (by kernel_rfl) (fn1 fun _ => rfl) (by decide) (by decide) rfl rfl rfl) rfl (by decide +kernel) fun c hc => ?_
  refine ss_if ?_
  cases v with
  | int a =>
    repeat' walk_at "vc"
    refine if_decide (fun q => ?_) (fun q => ?_)
    · repeat' walk_at "vc"
      have e : hgt (.int a) = decide (a ≤ 1000000000000000000) := by
        show (decide (-1000000000000000000 ≤ a) && _) = _
        rw [decide_eq_true q, Bool.true_and]
      rw [e] at h
      exact h
    · have e : hgt (.int a) = decide (-1000000000000000000 ≤ a) := by
        show (decide (-1000000000000000000 ≤ a) && _) = _
        rw [decide_eq_false q, Bool.false_and]
      rw [e] at h
      exact h
  | ref j =>
    obtain ⟨ys, hj⟩ := hv
    repeat' walk_at "vc"
    exact h
  | scr => exact hv.elim
  | glob _ => exact hv.elim
  | _ =>
    repeat' walk_at "vc"
    exact h

def goodL (vs : List V) : Bool := decide (1 ≤ vs.length) && decide (vs.length ≤ 200) && vs.all hgt
theorem checked_list {X : Value → List O → Prop} {Q : V → List O → Prop} {hp : List O} {i : Nat} {vs : List V} (hi : hp[i]? = some (.list vs)) (hpl : ∀ v ∈ vs, Plain hp v) (hl : vs.length < 2 ^ 20)
    (hg : goodL vs = true → Q (.ref hp.length) (hp ++ [.list vs])) (hb : goodL vs = false → X (.ref 44) hp) : CallOK (pgo prog w p loose mean mg mb) (lev + 2) true ns 143 [.ref i] hp X Q := by
  refine fn_run (xs := ["land"]) (fnAt_of rfl (by kernel_rfl) (fn1 fun _ => rfl) (by decide) (by decide) rfl rfl rfl) rfl (by decide +kernel) fun c hc => ?_
  have s63 : Side (vs.length < 2 ^ 63) := ⟨by omega⟩
  have ssz : Side (vs.length ≤ sizeLine) := ⟨by rw [sizeLine_eq]; omega⟩
  refine ss_if ?_
  repeat' (first | walk_at "vc" | refine cb_len_ref hi s63 ?_)
  refine if_decide (fun q => ?_) (fun q1 => ?_)
  · repeat' walk_at "vc"
    exact hb (by unfold goodL; rw [decide_eq_false (by omega), Bool.false_and, Bool.false_and])
  repeat' (first | walk_at "vc" | refine cb_len_ref hi s63 ?_)
  refine if_decide (fun q => ?_) (fun q2 => ?_)
  · repeat' walk_at "vc"
    exact hb (by unfold goodL; rw [decide_eq_false (p := vs.length ≤ 200) (by omega), Bool.and_false, Bool.false_and])
  repeat' walk_at "vc"
  refine ss_cut (fun l hp' => hp' = hp ∧ l "land" = some (.ref i) ∧ vs.all hgt = true) ?_ ?_
  · refine s_for1 (by walk_at "cx") (by kernel_rfl) rfl ?_
    refine i_val ?_
    repeat' walk_at "vc"
    refine srv_ref (by walk_at "cx") hi ?_
    refine ⟨fun k l hp' => hp' = hp ∧ l "land" = some (.ref i) ∧ ∀ (j : Nat) (hj : j < vs.length), j < k → hgt vs[j] = true, ⟨rfl, by walk_at "nm", fun j hj q => absurd q (Nat.not_lt_zero _)⟩, fun k l hp' e => e.1 ▸ hi, ?_, ?_⟩
    · rintro k hk l hp' ⟨e, g1, g2⟩
      subst e
      refine ss_if ?_
      repeat' walk_at "vc"
      refine is_height_ok (hpl _ (List.getElem_mem hk)) ?_
      repeat' walk_at "vc"
      refine if_b (fun q => ?_) (fun q => ?_)
      · repeat' walk_at "vc"
        have q' : hgt vs[k] = false := by simpa using q
        exact hb (by
          have : vs.all hgt = false := List.all_eq_false.mpr ⟨vs[k], List.getElem_mem hk, by rw [q']; decide⟩
          unfold goodL
          rw [this, Bool.and_false])
      · repeat' walk_at "vc"
        have q' : hgt vs[k] = true := by simpa using q
        exact ⟨rfl, by walk_at "nm", fun j hj z => if w' : j = k then by subst w'; exact q' else g2 j hj (by omega)⟩
    · rintro l hp' ⟨e, g1, g2⟩
      refine ⟨rfl, e, g1, List.all_eq_true.mpr fun x hx => ?_⟩
      obtain ⟨j, hj, rfl⟩ := List.getElem_of_mem hx
      exact g2 j hj hj
  rintro l hp' ⟨e, g1, g2⟩
  subst e
  repeat' walk_at "vc"
  · exact ssz
  exact hg (by unfold goodL; rw [g2, decide_eq_true (p := 1 ≤ vs.length) (by omega), decide_eq_true (p := vs.length ≤ 200) (by omega)]; rfl)
/-- no land -/
def NoL (hp : List O) : V → Prop
  | .int _ | .str _ | .none | .tup _ => True
  | .ref j => (∃ vs, hp[j]? = some (.list vs) ∧ (∀ u ∈ vs, Plain hp u) ∧ vs.length < 2 ^ 20 ∧ goodL vs = false) ∨ hp[j]? = some .dic
  | _ => False
theorem nol_list {hp : List O} {j : Nat} {vs : List V} (h1 : hp[j]? = some (.list vs)) (h2 : ∀ u ∈ vs, Plain hp u) (h3 : vs.length < 2 ^ 20) (h4 : goodL vs = false) : NoL hp (.ref j) := Or.inl ⟨vs, h1, h2, h3, h4⟩
theorem nol_dic {hp : List O} {j : Nat} (h1 : hp[j]? = some .dic) : NoL hp (.ref j) := Or.inr h1
theorem plain_app {hp t : List O} {v : V} (h : Plain hp v) : Plain (hp ++ t) v := by
  cases v <;> first | exact h | exact ⟨h.choose, app_get h.choose_spec⟩
theorem NoL.app {hp t : List O} {v : V} (h : NoL hp v) : NoL (hp ++ t) v := by
  cases v with
  | ref j =>
    rcases h with ⟨vs, h1, h2, h3⟩ | h
    · exact .inl ⟨vs, app_get h1, fun u hu => plain_app (h2 u hu), h3⟩
    · exact .inr (app_get h)
  | _ => exact h
theorem checked_no {X : Value → List O → Prop} {Q : V → List O → Prop} {hp : List O} {v : V} (hv : NoL hp v) (hb : X (.ref 44) hp) : CallOK (pgo prog w p loose mean mg mb) (lev + 2) true ns 143 [v] hp X Q := by
  cases v with
  | ref j =>
    rcases hv with ⟨vs, h1, h2, h3, h4⟩ | hd
    · exact checked_list h1 h2 h3 (fun q => by rw [h4] at q; cases q) (fun _ => hb)
    · refine fn_run (xs := ["land"]) (fnAt_of rfl (by kernel_rfl) (fn1 fun _ => rfl) (by decide) (by decide) rfl rfl rfl) rfl (by decide +kernel) fun c hc => ?_
      refine ss_if ?_
      repeat' (first | walk_at "vc" | refine isi_dl hd ?_)
      exact hb
  | bool b => exact hv.elim
  | scr => exact hv.elim
  | glob g => exact hv.elim
  | _ =>
    refine fn_run (xs := ["land"]) (fnAt_of rfl (by kernel_rfl) (fn1 fun _ => rfl) (by decide) (by decide) rfl rfl rfl) rfl (by decide +kernel) fun c hc => ?_
    refine ss_if ?_
    repeat' walk_at "vc"
    exact hb

theorem att_heights : AttOk (pgo prog w p loose mean mg mb).K 193 "heights" := ⟨by kernel_rfl, by kernel_rfl, by kernel_rfl, by kernel_rfl, by kernel_rfl, by kernel_rfl⟩
theorem att_lifts : AttOk (pgo prog w p loose mean mg mb).K 193 "lifts" := ⟨by kernel_rfl, by kernel_rfl, by kernel_rfl, by kernel_rfl, by kernel_rfl, by kernel_rfl⟩
abbrev landAt (C : Addr) (hp : List O) (vs : List V) : List O := [O.att [(Str.ofString "heights", .ref (hp.length + 2)), (Str.ofString "lifts", .ref (hp.length + 3))], O.inst C hp.length, O.list vs, O.list []]
theorem land_good {X : Value → List O → Prop} {Q : V → List O → Prop} {hp : List O} {i : Nat} {vs : List V} (hi : hp[i]? = some (.list vs)) (hpl : ∀ v ∈ vs, Plain hp v) (hl : vs.length < 2 ^ 20) (hg : goodL vs = true) (h : Q (.ref (hp.length + 1)) (hp ++ landAt 193 hp vs)) : CallOK (pgo prog w p loose mean mg mb) (lev + 4) true ns 193 [.ref i] hp X Q := by
  refine callOK_class (fI := 157) (by kernel_rfl) (by kernel_rfl) (by kernel_rfl) ?_
  refine fn_run (xs := ["self", "heights"]) (fnAt_of rfl (by kernel_rfl) (fn2 fun _ _ => rfl) (by decide) (by decide) rfl rfl rfl) rfl (by decide +kernel) fun c hc => ?_
  repeat' walk_at "vc"
  refine checked_list (app_get (app_get hi)) (fun v hv => plain_app (plain_app (hpl v hv))) hl (fun _ => ?_) (fun q => by rw [hg] at q; cases q)
  repeat' walk_at "vc"
  refine at_s (i := hp.length + 1) (j := hp.length) (es := []) (by simp) (by simp) rfl (by decide) att_heights ?_
  repeat' walk_at "vc"
  refine at_s (i := hp.length + 1) (j := hp.length) (es := [(Str.ofString "heights", .ref (hp.length + 2))]) (by simp) (by simp) rfl (by simp) att_lifts ?_
  repeat' walk_at "vc"
  refine ⟨rfl, ?_⟩
  refine Eq.mp (congrArg (Q _) ?_) h
  simp [landAt]
theorem land_no {X : Value → List O → Prop} {Q : V → List O → Prop} {hp : List O} {v : V} (hv : NoL hp v) (hb : ∀ t, X (.ref 44) (hp ++ t)) : CallOK (pgo prog w p loose mean mg mb) (lev + 4) true ns 193 [v] hp X Q := by
  refine callOK_class (fI := 157) (by kernel_rfl) (by kernel_rfl) (by kernel_rfl) ?_
  refine fn_run (xs := ["self", "heights"]) (fnAt_of rfl (by kernel_rfl) (fn2 fun _ _ => rfl) (by decide) (by decide) rfl rfl rfl) rfl (by decide +kernel) fun c hc => ?_
  repeat' walk_at "vc"
  refine checked_no hv.app.app ?_
  rw [List.append_assoc]
  exact hb _
theorem mth_told : MthOk (pgo prog w p loose mean mg mb).K 193 "told" 164 := ⟨by kernel_rfl, by kernel_rfl, by kernel_rfl, by kernel_rfl⟩
theorem told_ok {X : Value → List O → Prop} {Q : V → List O → Prop} {hp : List O} {i j k : Nat} {es : List (Str × V)} {vs : List V} (h1 : hp[i]? = some (.inst 193 j)) (h2 : hp[j]? = some (.att es)) (h3 : es.lookup (Str.ofString "heights") = some (.ref k)) (h4 : hp[k]? = some (.list vs)) (hl : Side (vs.length ≤ sizeLine)) (h : Q (.ref hp.length) (hp ++ [.list vs])) : CallOK (pgo prog w p loose mean mg mb) (lev + 1) true ns 164 [.ref i] hp X Q := by
  refine fn_run (xs := ["self"]) (fnAt_of rfl (by kernel_rfl) (fn1 fun _ => rfl) (by decide) (by decide) rfl rfl rfl) rfl (by decide +kernel) fun c hc => ?_
  repeat' walk_at "vc"
  refine at_g h1 h2 h3 att_heights ?_
  repeat' walk_at "vc"
  · exact hl
  exact h

theorem good_ints {zs : List Int} (h1 : 1 ≤ zs.length) (h2 : zs.length ≤ 200) (h : ∀ z ∈ zs, -1000000000000000000 ≤ z ∧ z ≤ 1000000000000000000) : goodL (zs.map .int) = true := by
  unfold goodL
  rw [List.length_map, decide_eq_true h1, decide_eq_true h2, Bool.true_and, Bool.true_and, List.all_eq_true]
  intro v hv
  obtain ⟨z, hz, rfl⟩ := List.mem_map.mp hv
  show (decide _ && decide _) = true
  rw [decide_eq_true (h z hz).1, decide_eq_true (h z hz).2]
  rfl
theorem plain_ints {zs : List Int} {hp : List O} : ∀ v ∈ zs.map V.int, Plain hp v := by
  intro v hv
  obtain ⟨z, _, rfl⟩ := List.mem_map.mp hv
  exact trivial

theorem refused_no {X : Value → List O → Prop} {Q : V → List O → Prop} {hp : List O} {v : V} {b : Bool} (hv : NoL hp v) (h : ∀ t, Q (.bool true) (hp ++ t)) : CallOK (pgo prog w p loose mean mg mb) (lev + 5) true ns 225 [v, .bool b] hp X Q := by
  refine fn_run (xs := ["_law_thing", "_law_by_land"]) (fnAt_of rfl (by kernel_rfl) (fn2 fun _ _ => rfl) (by decide) (by decide) rfl rfl rfl) rfl (by decide +kernel) fun c hc => ?_
  refine ss_cons (s_try1 (.ref 44) (fun l hp' => ∃ t, hp' = hp ++ t) (fun X' hX' => ?_) ?_)
  · have hX : ∀ t l, X' (.ref 44) ⟨l, hp ++ t⟩ := fun t l => hX' _ _ ⟨t, rfl⟩
    refine ss_if ?_
    repeat' walk_at "vc"
    refine if_b (fun q => ?_) (fun q => ?_)
    · repeat' walk_at "vc"
      exact land_no hv fun t => hX t _
    · repeat' walk_at "vc"
      have := hX [] (bindV ["_law_thing", "_law_by_land"] [v, .bool b] fun _ => none)
      rw [List.append_nil] at this
      exact checked_no hv this
  · rintro l hp' ⟨t, rfl⟩
    have hex : (hp ++ t ++ [O.exn 44])[(hp ++ t).length]? = some (.exn 44) := app_new
    repeat' walk_at "vc"
    refine sole_ok hex xcf_NoLand kit_NoLand_NoLand kit_NoLand_NoHill kit_NoLand_SameHill kit_NoLand_TooHigh kit_NoLand_NothingDone kit_NoLand_HillError kit_NoLand_VE (by decide) ?_
    repeat' walk_at "vc"
    rw [List.append_assoc]
    exact h _

theorem bools_of {vs : List V} {b : Bool} (h : ∀ (j : Nat) (hj : j < vs.length), vs[j] = .bool b) : vs = (List.replicate vs.length b).map V.bool := by
  refine List.ext_getElem (by simp) fun j h1 h2 => ?_
  rw [h j h1]
  simp
theorem all_rep {n : Nat} : (List.replicate n true).all id = true := by
  rw [List.all_eq_true]
  intro x hx
  exact (List.eq_of_mem_replicate hx)
theorem pick_mem {vs : List V} {a b : Option Int} {u : V} (h : u ∈ pickV vs a b) : u ∈ vs := List.mem_of_mem_drop (List.mem_of_mem_take h)
theorem pick_len (vs : List V) (a b : Option Int) : (pickV vs a b).length ≤ vs.length := by
  unfold pickV
  rw [List.length_take, List.length_drop]
  omega
theorem bad_of {vs : List V} {u : V} (h : u ∈ vs) (hu : hgt u = false) : goodL vs = false := by
  have : vs.all hgt = false := List.all_eq_false.mpr ⟨u, h, by rw [hu]; decide⟩
  unfold goodL
  rw [this, Bool.and_false]
theorem ints_app (zs : List Int) (x : Int) : zs.map V.int ++ [.int x] = (zs ++ [x]).map V.int := by simp
theorem law_ok {s₁ : Shared} {fa a : Addr} {vals : List Value} {R : Result → Shared → Prop}
    (T : Top p loose mean mg mb s₁.heap) (KX : (Mine.hd12.heap_1 w.params).In s₁.heap) (hmg : mg "law" = some (.ref fa)) (hL : s₁.heap.IsList a vals.toArray) (hI : IntsAre vals ns) (hn : ns.length ≤ 63)
    (hR : ∀ s' m', Fr s₁.heap s₁.heap.objs.size s'.heap m' → s'.gens = s₁.gens → s'.os = s₁.os → R (.ok (.ret (.bool true))) s') : codeAny (model prog w) callerA (.call (.ref fa) ⟨[.ref a], []⟩) R s₁ := by
  refine law_go (pg := pgo prog w p loose mean mg mb) (f := 230) (x := "_law_script") T KX hmg hL hI hn (by kernel_rfl) (fnAt_of rfl (by kernel_rfl) (fn1 fun _ => rfl) (by decide) (by decide) rfl rfl rfl) (by decide +kernel) hR fun c hc => ?_
  have hn' : ns.length < 2 ^ 62 := by omega
  repeat' (first | walk_at "vc" | refine cell_at_ok hn' ?_ ?_)
  all_goals try walk_at "side"
  have m1 := Int.emod_lt_of_pos (cell ns 0) (b := 200) (by omega)
  have m2 := Int.emod_nonneg (cell ns 0) (b := 200) (by omega)
  generalize esz : 1 + cell ns 0 % 200 = size
  have z1 : 1 ≤ size := by omega
  have z2 : size ≤ 200 := by omega
  clear m1 m2 esz
  have szp : Side (0 < size) := ⟨by omega⟩
  refine i_range (by walk_at "cx") gl_range (by kernel_rfl) rfl ?_
  repeat' walk_at "vc"
  · walk_at "side"
  refine comp_ints (by walk_at "cx") (by kernel_rfl) (fun _ x => -1000000000000000000 ≤ x ∧ x ≤ 1000000000000000000) ?_ (fun _ => trivial) ?_ ?_
  · rw [rngItems_length, sizeLine_eq]; omega
  · intro k hk vs hv
    refine ⟨_, tgt1, fun c' hc' => ?_⟩
    rw [rngItems_get]
    rw [rngItems_length] at hk
    repeat' (first | walk_at "vc" | refine cell_at_ok hn' ?_ ?_)
    all_goals first | walk_at "side" | skip
    refine ⟨rfl, _, rfl, ?_⟩
    generalize cell ns (4 + (0 + (k : Int)) % 30) * (48271 + 2 * (0 + (k : Int))) = y
    omega
  intro ys hy hb
  rw [rngItems_length] at hy
  refine ss_cut (fun l hp => ∃ (i : Nat) (zs : List Int), hp[i]? = some (.list (zs.map .int)) ∧ (zs.length : Int) = size ∧ (∀ z ∈ zs, -1000000000000000000 ≤ z ∧ z ≤ 1000000000000000000) ∧ l "_law_good" = some (.ref i) ∧ l "_law_script" = some .scr ∧ l "_law_far" = some (.int 1000000000000000000) ∧ l "_law_size" = some (.int size)) ?_ ?_
  · repeat' (first | walk_at "vc" | refine cell_at_ok hn' ?_ ?_)
    all_goals try walk_at "side"
    refine sb_all (by walk_at "hp") ?_ (fun v hv => ?_)
    · refine ⟨?_⟩
      simp only [List.length_cons, List.length_nil]
      omega
    have hx : ∃ x : Int, v = .int x ∧ -1000000000000000000 ≤ x ∧ x ≤ 1000000000000000000 := by
      simp only [List.mem_cons, List.not_mem_nil, or_false] at hv
      rcases hv with rfl | rfl | rfl <;> exact ⟨_, rfl, by decide, by decide⟩
    obtain ⟨x, rfl, x1, x2⟩ := hx
    clear hv
    repeat' (first | walk_at "vc" | refine cell_at_ok hn' ?_ ?_)
    all_goals try walk_at "side"
    have ma := Int.emod_lt_of_pos (cell ns 1) (b := size) (by omega)
    have ma' := Int.emod_nonneg (cell ns 1) (b := size) (by omega)
    refine st_ref (xs := ys.map .int) (by walk_at "hp") ⟨by rw [List.length_map]; omega⟩ ?_
    refine ⟨rfl, _, ys.set (cell ns 1 % size).toNat x, ?_, by rw [List.length_set]; omega, ?_, by walk_at "nm", by walk_at "nm", by walk_at "nm", by walk_at "nm"⟩
    · rw [List.map_set]
      simp
    · intro z hz
      rcases List.mem_or_eq_of_mem_set hz with q | q
      · obtain ⟨j, hj, rfl⟩ := List.getElem_of_mem q
        exact hb j hj
      · rw [q]; exact ⟨x1, x2⟩
  clear hb hy ys
  rintro l hp ⟨i, zs, hi, hz, hb, l1, l2, l3, l4⟩
  have hlt := get_lt hi
  have hg : goodL (zs.map .int) = true := good_ints (by omega) (by omega) hb
  have szz : Side ((zs.map V.int).length ≤ sizeLine) := ⟨by rw [List.length_map, sizeLine_eq]; omega⟩
  have szl : (zs.map V.int).length < 2 ^ 20 := by rw [List.length_map]; omega
  have ma := Int.emod_lt_of_pos (cell ns 2) (b := size) (by omega)
  have ma' := Int.emod_nonneg (cell ns 2) (b := size) (by omega)
  repeat' (first | walk_at "vc" | refine cell_at_ok hn' ?_ ?_)
  all_goals try walk_at "side"
  generalize cell ns 2 % size = place at ma ma' ⊢
  refine ss_if ?_
  repeat' walk_at "vc"
  refine if_decide (fun q => ?_) (fun q => ?_)
  · clear q
    repeat' walk_at "vc"
    · exact szz
    refine checked_list app_new plain_ints szl (fun _ => ?_) (fun q => by rw [hg] at q; cases q)
    have hi1 := app_get (t := [O.list (zs.map V.int)]) (app_get (t := [O.list (zs.map V.int)]) hi)
    have hh1 := app_get (t := [O.list (zs.map V.int)]) (app_new (hp := hp) (o := O.list (zs.map V.int)))
    have hf1 := app_new (hp := hp ++ [O.list (zs.map V.int)]) (o := O.list (zs.map V.int))
    have hne : (hp ++ [O.list (zs.map V.int)]).length ≠ hp.length := by simp
    have hne' : (hp ++ [O.list (zs.map V.int)]).length ≠ i := by simp; omega
    have hne2 : hp.length ≠ i := by omega
    generalize (hp ++ [O.list (zs.map V.int)]).length = F at hf1 hne hne' ⊢
    generalize hp ++ [O.list (zs.map V.int)] ++ [O.list (zs.map V.int)] = hp₁ at hi1 hh1 hf1 ⊢
    generalize hp.length = H at hh1 hne hne2 ⊢
    clear hi hlt hp
    repeat' walk_at "vc"
    refine ss_if ?_
    repeat' walk_at "vc"
    refine i_val ?_
    repeat' walk_at "vc"
    refine srv_ref (by walk_at "cx") hf1 ?_
    refine comp_gen (by walk_at "cx") (by kernel_rfl) (fun _ v => v = .bool true) szz.h (fun _ => app_get hf1) ?_ ?_
    · intro k hk vs hv hr
      refine ⟨_, tgt1, fun c' hc' => ?_⟩
      rw [List.getElem_map]
      repeat' walk_at "vc"
      refine whole_ok ?_
      exact ⟨rfl, rfl⟩
    intro vs hv hr
    rw [bools_of hr]
    repeat' walk_at "vc"
    refine cb_all (by walk_at "cx") app_new ?_
    rw [all_rep]
    repeat' (first | walk_at "vc" | refine cmp_ints_ne (by walk_at "hp") (by walk_at "hp") ?_)
    rw [show decide (zs = zs) = true by simp]
    have hi2 := app_get (t := [O.list ((List.replicate vs.length true).map V.bool)]) hi1
    have hh2 := app_get (t := [O.list ((List.replicate vs.length true).map V.bool)]) hh1
    have hf2 := app_get (t := [O.list ((List.replicate vs.length true).map V.bool)]) hf1
    generalize hp₁ ++ [O.list ((List.replicate vs.length true).map V.bool)] = hp₂ at hi2 hh2 hf2 ⊢
    clear hi1 hh1 hf1 hp₁ hr hv vs
    repeat' walk_at "vc"
    · exact szz
    rw [ints_app]
    have hi3 := set_get (o' := O.list ((zs ++ [0]).map V.int)) hi2 hne'
    have hh3 := set_get (o' := O.list ((zs ++ [0]).map V.int)) hh2 hne
    have hf3 := set_at (o' := O.list ((zs ++ [0]).map V.int)) hf2
    generalize hp₂.set F (O.list ((zs ++ [0]).map V.int)) = hp₃ at hi3 hh3 hf3 ⊢
    clear hi2 hh2 hf2 hp₂
    refine ss_if ?_
    repeat' walk_at "vc"
    refine checked_list hh3 plain_ints szl (fun _ => ?_) (fun q => by rw [hg] at q; cases q)
    repeat' (first | walk_at "vc" | refine cmp_ints_ne app_new (app_get hi3) ?_)
    rw [show decide (zs = zs) = true by simp]
    repeat' walk_at "vc"
    · exact ⟨by simp only [List.length_map, List.length_cons, List.length_nil, sizeLine_eq]; omega⟩
    rw [ints_app]
    refine cmp_ints_ne (xs := zs ++ [0]) (ys := zs ++ [0]) (by walk_at "hp") (by walk_at "hp") ?_
    rw [show decide (zs ++ [0] = zs ++ [0]) = true by simp]
    have hi4 := app_get (t := [O.list ((zs ++ [0]).map V.int)]) (app_get (t := [O.list [V.int 0]]) (app_get (t := [O.list (zs.map V.int)]) hi3))
    have hh4 := app_get (t := [O.list ((zs ++ [0]).map V.int)]) (app_get (t := [O.list [V.int 0]]) (app_get (t := [O.list (zs.map V.int)]) hh3))
    generalize hp₃ ++ [O.list (zs.map V.int)] ++ [O.list [V.int 0]] ++ [O.list ((zs ++ [0]).map V.int)] = hp₄ at hi4 hh4 ⊢
    clear hi3 hh3 hf3 hp₃
    repeat' walk_at "vc"
    refine land_good hh4 plain_ints szl hg ?_
    have hi5 := app_get (t := landAt 193 hp₄ (zs.map .int)) hi4
    have hh5 := app_get (t := landAt 193 hp₄ (zs.map .int)) hh4
    have ha5 : (hp₄ ++ landAt 193 hp₄ (zs.map .int))[hp₄.length]? = some (O.att [(Str.ofString "heights", .ref (hp₄.length + 2)), (Str.ofString "lifts", .ref (hp₄.length + 3))]) := by simp
    have hn5 : (hp₄ ++ landAt 193 hp₄ (zs.map .int))[hp₄.length + 1]? = some (O.inst 193 hp₄.length) := by simp
    have hs5 : (hp₄ ++ landAt 193 hp₄ (zs.map .int))[hp₄.length + 2]? = some (O.list (zs.map .int)) := by simp
    have hh4' := get_lt hh4
    generalize hp₄ ++ landAt 193 hp₄ (zs.map .int) = hp₅ at hi5 hh5 ha5 hn5 hs5 ⊢
    generalize hp₄.length = N at ha5 hn5 hs5 hh4' ⊢
    clear hi4 hh4 hp₄
    repeat' walk_at "vc"
    · exact szz
    rw [ints_app]
    have hi6 := set_get (o' := O.list ((zs ++ [1]).map V.int)) hi5 hne2
    have ha6 := set_get (o' := O.list ((zs ++ [1]).map V.int)) ha5 (i := H) (by omega)
    have hn6 := set_get (o' := O.list ((zs ++ [1]).map V.int)) hn5 (i := H) (by omega)
    have hs6 := set_get (o' := O.list ((zs ++ [1]).map V.int)) hs5 (i := H) (by omega)
    have hh6 := set_at (o' := O.list ((zs ++ [1]).map V.int)) hh5
    generalize hp₅.set H (O.list ((zs ++ [1]).map V.int)) = hp₆ at hi6 hh6 ha6 hn6 hs6 ⊢
    clear hi5 hh5 ha5 hn5 hs5 hp₅
    repeat' walk_at "vc"
    refine at_m hn6 ha6 rfl mth_told ?_
    repeat' walk_at "vc"
    refine told_ok hn6 ha6 rfl hs6 szz ?_
    repeat' (first | walk_at "vc" | refine cmp_ints_eq app_new (app_get hi6) ?_)
    rw [show decide (zs = zs) = true by simp]
    repeat' walk_at "vc"
    · exact ⟨by simp only [List.length_map, List.length_cons, List.length_nil, sizeLine_eq]; omega⟩
    rw [ints_app]
    refine cmp_ints_eq (xs := zs ++ [1]) (ys := zs ++ [1]) (by walk_at "hp") (by walk_at "hp") ?_
    rw [show decide (zs ++ [1] = zs ++ [1]) = true by simp]
  repeat' (first | walk_at "vc" | refine cell_at_ok hn' ?_ ?_)
  all_goals try walk_at "side"
  refine sb_all (by walk_at "hp") ?_ (fun v hv => ?_)
  · refine ⟨?_⟩
    simp only [List.length_cons, List.length_nil]
    omega
  have hv' : (∀ hp : List O, Plain hp v) ∧ hgt v = false := by
    simp only [List.mem_cons, List.not_mem_nil, or_false] at hv
    rcases hv with rfl | rfl | rfl | rfl | rfl | rfl | rfl | rfl <;> exact ⟨fun _ => trivial, by decide⟩
  clear hv
  obtain ⟨hv1, hv2⟩ := hv'
  have p1 := pick_len (zs.map V.int) none (some place)
  have p2 := pick_len (zs.map V.int) (some (place + 1)) none
  repeat' (first | walk_at "vc" | refine Exists.intro _ (And.intro rfl ?_))
  all_goals first | exact szz | exact ⟨by simp only [List.length_append, List.length_cons, List.length_nil, sizeLine_eq]; omega⟩ | skip
  refine ss_cut (fun l hp => ∃ u, l "_law_bad" = some u ∧ NoL hp u) ?_ ?_
  · have hA : ∀ u ∈ pickV (zs.map V.int) none (some place), ∀ hp : List O, Plain hp u := fun u hu hp => plain_ints u (pick_mem hu)
    have hB : ∀ u ∈ pickV (zs.map V.int) (some (place + 1)) none, ∀ hp : List O, Plain hp u := fun u hu hp => plain_ints u (pick_mem hu)
    rw [List.length_map] at p1 p2
    generalize pickV (zs.map V.int) none (some place) = A at p1 hA ⊢
    generalize pickV (zs.map V.int) (some (place + 1)) none = B at p2 hB ⊢
    refine s_if ?_
    repeat' walk_at "vc"
    refine if_decide (fun q => ?_) (fun q => ?_)
    · repeat' walk_at "vc"
      refine i_range (by walk_at "cx") gl_range (by kernel_rfl) rfl ?_
      repeat' walk_at "vc"
      · walk_at "side"
      refine comp_ints (by walk_at "cx") (by kernel_rfl) (fun _ _ => True) ?_ (fun _ => trivial) ?_ ?_
      · rw [rngItems_length, sizeLine_eq]; omega
      · intro k hk vs hv
        refine ⟨_, tgt1, fun c' hc' => ?_⟩
        repeat' walk_at "vc"
        exact ⟨rfl, _, rfl, trivial⟩
      intro ys hy _
      rw [rngItems_length] at hy
      repeat' (first | walk_at "vc" | refine cell_at_ok hn' ?_ ?_)
      all_goals first | exact szz | walk_at "side" | skip
      refine sb_all (by walk_at "hp") ?_ (fun v hv => ?_)
      · refine ⟨?_⟩
        simp only [List.length_cons, List.length_nil]
        omega
      repeat' walk_at "vc"
      refine ⟨rfl, v, by walk_at "nm", ?_⟩
      simp only [List.mem_cons, List.not_mem_nil, or_false] at hv
      rcases hv with rfl | rfl | rfl | rfl | rfl | rfl | rfl | rfl
      · exact nol_list (vs := []) (by walk_at "hp") (fun u hu => by cases hu) (by decide) rfl
      · refine nol_list (vs := ys.map .int) (by walk_at "hp") plain_ints (by rw [List.length_map]; omega) ?_
        unfold goodL
        rw [List.length_map, decide_eq_false (p := ys.length ≤ 200) (by omega), Bool.and_false, Bool.false_and]
      · exact trivial
      · exact trivial
      · exact trivial
      · exact trivial
      · exact nol_dic (by walk_at "hp")
      · refine nol_list (vs := [.ref i]) (by walk_at "hp") ?_ (by simp) rfl
        intro u hu
        rw [List.mem_singleton.mp hu]
        exact ⟨_, by walk_at "hp"⟩
    · repeat' walk_at "vc"
      refine ⟨rfl, _, by walk_at "nm", nol_list (vs := A ++ [v] ++ B) (by walk_at "hp") ?_ ?_ ?_⟩
      · intro u hu
        rcases List.mem_append.mp hu with hu | hu
        · rcases List.mem_append.mp hu with hu | hu
          · exact hA u hu _
          · rw [List.mem_singleton.mp hu]; exact hv1 _
        · exact hB u hu _
      · simp only [List.length_append, List.length_cons, List.length_nil]
        omega
      · exact bad_of (List.mem_append_left _ (List.mem_append_right _ (List.mem_singleton.mpr rfl))) hv2
  rintro l' hp' ⟨u, l5, hu⟩
  repeat' walk_at "vc"
  refine refused_no hu (fun t => ?_)
  repeat' walk_at "vc"
  refine refused_no hu.app (fun t' => ?_)
  repeat' walk_at "vc"
  exact rfl

end
end Mine
open PySem PySem.W PySem.Calls PySem.Spec PyProof.Rows
set_option maxRecDepth 100000 in
set_option maxHeartbeats 8000000 in
theorem PySem.Challenge.cw_uf050038_12_holds : PySem.Challenge.rw_uf050038_12.Holds :=
  Mine.both_of Mine.hd12 Mine.left12 (by
  intro w s₀ s₁ mg mb G Y fa o pm cd doc dV kV ho hd hcd hD hmg hg args vals as hpre hlay hrd hwl hlo
  have KX := kIn_of Y
  refine Ground.open G ?_
  intro T B D TE TW
  wrow_args hpre hlay hrd hwl hlo
  all_goals first | refine callC_kw (enter_call ?_) | refine enter_call ?_ | refine callC_kw (enter_callW ?_) | refine enter_callW ?_
  refine codeAny_mono ?_ (fun _ _ g => GoodW.toG g)
  refine Mine.law_ok T KX hmg (by assumption) (by assumption) ?_ ?_
  · omega
  · intro s' m' F e1 e2
    refine goodW_bool F (e1.trans hg) (fun _ => rfl) ?_ e2
    wrow_post)
