import PyProof.Rows.All
import Wide.All
import OpenK.AllK
import Wide.FinOn
import PyProof.Rows.Many
import PyProof.WalksMore
import PyProof.PlainList
import PyProof.TupleKey
import PyProof.DictKinds
import OpenK.KMake
import PyProof.Rows.News
import OpenK.KWalk
import OpenK.KCell
import KE.KTryMore
import PyProof.Cells
import PyProof.Rows.Nodes
import PyProof.Rows.Chain
import PyProof.Rows.TupSub
import PyProof.Rows.Own
import PyProof.Rows.IntRules
import PyProof.Raises
import PyProof.Rules2
import PyProof.ForAny
import PyProof.Rows.SeqInts
import PyProof.IsRules
import PyProof.ListTruth
import PyProof.Truth
import PyProof.Rows.RuleB_small
import PyProof.Rows.RuleB_mul
import PyProof.Rows.RuleB_mod
import PyProof.Rows.RuleB_floordiv
import PyProof.Rows.RuleU_int
import PyProof.Rows.RuleC_int
import PyProof.Rows.EqDataRows
import PyProof.Rows.SeqMore
import PyProof.IsiPairs
import PyProof.IsiNone
import PyProof.IsInstanceH
import PyProof.WalkInts
import PyProof.ListCopy
import PyProof.RangeFor
import PyProof.Methods
import PyProof.PureCalls
import PyProof.ListIndex
import PyProof.ListIndexNeg
import PyProof.Conv_int_bool
import PyProof.FactsAll.list_3
import PyProof.Rows.RuleN_abs
import PyProof.Rows.StrTemp
import PyProof.Rows.Method
import PyProof.Rows.Exc
import PyProof.Rows.StrRules
import PyProof.CompFree
import PyProof.CompMap
import PyProof.Rows.TupIter
import PyProof.Rows.TupAssign
import PyProof.RulesAssignMore
import KE.KItem
import KE.KPop
import OpenK.KOwn
import KE.KSliceW
import KE.KRevSl
import PyProof.ConsumeWalk
import PyProof.ZipIter
import PyProof.Rows.ZipGen
import PyProof.LayNew
import KE.KIsAll
import PyProof.ExcArgs
import KE.KMulAny
import PyProof.Rows.SeqCalls
import KE.KEqDeep
import PyProof.FactsAll.tuple_2
import PyProof.Rows.TupTab
import PyProof.Rows.DictMade
import PyProof.DictRoadsH
import PyProof.Rows.SortRuns
import PyProof.Rows.SortShell
import KE.KSortTup
import PyProof.Rows.SortWalk
import PyProof.AssignAttr
import PyProof.Rows.AttrNode
import PyProof.TupleOfSeq
import PyProof.Rows.DictMod
import PyProof.StrOps2
import PyProof.StrBlockH
import PyProof.StrBlock2
import PyProof.StrCalls3
import PyProof.StrLoop
import PyProof.StrWalks
import PyProof.CallStr
import PyProof.P3In
import PyProof.Rows.StrLen
import PyProof.FactsAll.str_ascii_iterator_1
import KE.KIntText
import PyProof.StrLawsTight
import PyProof.StrLawsIdx
import PyProof.StrLawsIn
import PyProof.StrLawsFirst
import PyProof.Rows.CatFin
import PySem.Challenge.RW_uf050038_10
set_option Elab.async false
set_option linter.all false
set_option compiler.extract_closed false
open PySem PySem.W PySem.Calls PySem.Spec PyProof.Rows

set_option autoImplicit false
namespace Mine
open PySem PySem.Calls PySem.Spec PyProof.Rows

/-! Abstract values and objects -/
inductive V where
  | none
  | bool (b : Bool)
  | int (n : Int)
  | str (s : Str)
  | tup (vs : List V)
  | ref (i : Nat)
  | scr
  | glob (v : Value)

inductive O where
  | list (vs : List V)
  | exn (C : Addr)
  | tab (ks : List (List Int))
  | inst (C : Addr) (j : Nat)
  | att (es : List (Str × V))
  | dic

structure St where
  loc : Str → Option V
  hp : List O

def setN (l : Str → Option V) (x : Str) (v : V) : Str → Option V := fun y => if y = x then some v else l y
def St.set (σ : St) (x : Str) (v : V) : St := ⟨setN σ.loc x v, σ.hp⟩

/-- where the abstract objects lie -/
structure Wd where
  al : List Addr
  tp : List (Addr × List Value)
  sc : Addr

def Wd.le (W W' : Wd) : Prop := W.al <+: W'.al ∧ (∀ t ∈ W.tp, t ∈ W'.tp) ∧ W.sc = W'.sc
theorem Wd.le.refl (W : Wd) : W.le W := ⟨List.prefix_refl _, fun _ h => h, rfl⟩
theorem Wd.le.trans {W W' W'' : Wd} (a : W.le W') (b : W'.le W'') : W.le W'' := ⟨a.1.trans b.1, fun t h => b.2.1 t (a.2.1 t h), a.2.2.trans b.2.2⟩

mutual
inductive VR (W : Wd) : V → Value → Prop
  | none : VR W .none .none
  | bool (b : Bool) : VR W (.bool b) (.bool b)
  | int (n : Int) (t : Tok) : VR W (.int n) (.int n t)
  | str (x : Str) (t : Tok) : VR W (.str x) (.str x t)
  | tup {vs : List V} {xs : List Value} {a : Addr} : (a, xs) ∈ W.tp → VRs W vs xs → VR W (.tup vs) (.ref a)
  | ref {i : Nat} {a : Addr} : W.al[i]? = some a → VR W (.ref i) (.ref a)
  | scr : VR W .scr (.ref W.sc)
  | glob (v : Value) : VR W (.glob v) v
inductive VRs (W : Wd) : List V → List Value → Prop
  | nil : VRs W [] []
  | cons {v : V} {vs : List V} {x : Value} {xs : List Value} : VR W v x → VRs W vs xs → VRs W (v :: vs) (x :: xs)
end

theorem prefix_get {α : Type} {l l' : List α} {i : Nat} {a : α} (h : l <+: l') (e : l[i]? = some a) : l'[i]? = some a := by
  obtain ⟨t, rfl⟩ := h
  rw [List.getElem?_append_left (by
    rcases Nat.lt_or_ge i l.length with q | q
    · exact q
    · rw [List.getElem?_eq_none q] at e; cases e)]
  exact e

mutual
theorem VR.mono {W W' : Wd} (h : W.le W') : ∀ {v : V} {x : Value}, VR W v x → VR W' v x
  | _, _, .none => .none
  | _, _, .bool b => .bool b
  | _, _, .int n t => .int n t
  | _, _, .str x t => .str x t
  | _, _, .tup m r => .tup (h.2.1 _ m) (VRs.mono h r)
  | _, _, .ref e => .ref (prefix_get h.1 e)
  | _, _, .scr => h.2.2 ▸ .scr
  | _, _, .glob v => .glob v
theorem VRs.mono {W W' : Wd} (h : W.le W') : ∀ {vs : List V} {xs : List Value}, VRs W vs xs → VRs W' vs xs
  | _, _, .nil => .nil
  | _, _, .cons a r => .cons (VR.mono h a) (VRs.mono h r)
end

theorem VRs.length {W : Wd} : ∀ {vs : List V} {xs : List Value}, VRs W vs xs → vs.length = xs.length
  | _, _, .nil => rfl
  | _, _, .cons _ r => by simp [VRs.length r]
theorem VRs.append {W : Wd} : ∀ {vs ws : List V} {xs ys : List Value}, VRs W vs xs → VRs W ws ys → VRs W (vs ++ ws) (xs ++ ys)
  | _, _, _, _, .nil => fun r => r
  | _, _, _, _, .cons a q => fun r => .cons a (VRs.append q r)
theorem VRs.get {W : Wd} : ∀ {vs : List V} {xs : List Value}, VRs W vs xs → ∀ {i : Nat} {v : V}, vs[i]? = some v → ∃ x, xs[i]? = some x ∧ VR W v x
  | _, _, .nil => by intro h; simp at h
  | _, _, .cons a r => by
    rename_i i v _ _ _ _
    intro h
    cases i with
    | zero => simp at h; subst h; exact ⟨_, rfl, a⟩
    | succ i => simpa using VRs.get r (by simpa using h)
theorem VRs.set {W : Wd} : ∀ {vs : List V} {xs : List Value}, VRs W vs xs → ∀ (i : Nat) {v : V} {x : Value}, VR W v x → VRs W (vs.set i v) (xs.set i x)
  | _, _, .nil, i, v, x, h => by simpa using .nil
  | _, _, .cons a r, 0, v, x, h => .cons h r
  | _, _, .cons a r, i + 1, v, x, h => .cons a (VRs.set r i h)
theorem VRs.take {W : Wd} : ∀ {vs : List V} {xs : List Value}, VRs W vs xs → ∀ (n : Nat), VRs W (vs.take n) (xs.take n)
  | _, _, _, 0 => by simpa using .nil
  | _, _, .nil, n + 1 => .nil
  | _, _, .cons a r, n + 1 => .cons a (VRs.take r n)
theorem VRs.drop {W : Wd} : ∀ {vs : List V} {xs : List Value}, VRs W vs xs → ∀ (n : Nat), VRs W (vs.drop n) (xs.drop n)
  | _, _, h, 0 => by simpa using h
  | _, _, .nil, n + 1 => by simpa using .nil
  | _, _, .cons a r, n + 1 => by simpa using VRs.drop r n

abbrev tupObj (xs : List Value) : Obj := { cls := .type "tuple", data := .seq xs.toArray 0 }
abbrev listObj (xs : List Value) (n : Nat) : Obj := { cls := .type "list", data := .seq xs.toArray n }

/-- the hash of a tuple of numbers -/
def tabHash (ks : List Int) : Int := reduceHash (Builtin.Tuple.tupleHashOf (ks.map hashInt))
def AttE (W : Wd) : List (Str × V) → List DictEntry → Prop
  | [], [] => True
  | (x, v) :: es, d :: ds => (∃ t, d.key = .str x t) ∧ VR W v d.val ∧ AttE W es ds
  | _, _ => False
theorem AttE.mono {W W' : Wd} (h : W.le W') : ∀ {es : List (Str × V)} {ds : List DictEntry}, AttE W es ds → AttE W' es ds
  | [], [], _ => trivial
  | (_, _) :: _, _ :: _, ⟨a, b, c⟩ => ⟨a, b.mono h, AttE.mono h c⟩
  | [], _ :: _, x => x.elim
  | _ :: _, [], x => x.elim

inductive OR (W : Wd) : O → Addr → Obj → Prop
  | list {a : Addr} {vs : List V} {xs : List Value} (n : Nat) : VRs W vs xs → OR W (.list vs) a (listObj xs n)
  | exn {a C : Addr} {ob : Obj} {vs : Array Value} : ob.cls = .ref C → ob.data = .fields vs → OR W (.exn C) a ob
  | tab {a : Addr} {ks : List (List Int)} {ob : Obj} {es : Array DictEntry} {ep : Nat} {xs : List (List Int × Addr × Value)} : (a == sysModules) = false → ob.ExactDict → ob.data = .dict es ep → es.toList = xs.map (fun x => (⟨tabHash x.1, .ref x.2.1, x.2.2⟩ : DictEntry)) →
      xs.map (·.1) = ks → ks.Nodup → (∀ x ∈ xs, ∃ us, (x.2.1, us) ∈ W.tp ∧ VRs W (x.1.map .int) us) → OR W (.tab ks) a ob
  | inst {a C dx : Addr} {j : Nat} : W.al[j]? = some dx → OR W (.inst C j) a (PySem.W.instObj C dx)
  | att {a : Addr} {es : List (Str × V)} {ds : List DictEntry} {ep : Nat} : AttE W es ds → OR W (.att es) a { cls := .type "dict", data := .dict ds.toArray ep }
  | dic {a : Addr} {ob : Obj} : ob.cls = .type "dict" → OR W .dic a ob

theorem OR.mono {W W' : Wd} (h : W.le W') {o : O} {a : Addr} {ob : Obj} : OR W o a ob → OR W' o a ob
  | .list n r => .list n (r.mono h)
  | .exn a b => .exn a b
  | .tab a b c d e f g => .tab a b c d e f fun x hx => let ⟨us, h1, h2⟩ := g x hx; ⟨us, h.2.1 _ h1, h2.mono h⟩
  | .inst e => .inst (prefix_get h.1 e)
  | .att c => .att (c.mono h)
  | .dic a => .dic a

end Mine

set_option autoImplicit false
namespace Mine
open PySem PySem.W PySem.Calls PySem.Spec PyProof.Rows

/-- the program, its world, what stands at its top -/
structure Pg where
  prog : Program
  w : World
  K : Frag
  p : Program
  loose : List Str
  mean : ExcName → Option Value
  mg : Str → Option Value
  mb : Str → Option Value

/-- the value of a name at the top -/
def Pg.gl (pg : Pg) (x : Str) : Option Value :=
  match nsIn pg.K mainGlobals x with
  | some (some v) => some v
  | some none => if x = "__name__" then none else bootBuiltins x
  | none => none

/-- a frame: what does not change while its body runs -/
structure Fx where
  pg : Pg
  A : Around
  env : Env
  fenv : Env
  outer : List Env
  A₀ : Around
  base : Heap
  h₀ : Heap
  L : Addr
  ex : List (Addr × Obj)
  s₀ : Shared
  sc : Addr
  ns : List Int
  lev : Nat
  mfix : Option (Str → Option Value)
  qt : Bool

abbrev Fx.M (fx : Fx) : Model := model fx.pg.prog fx.pg.w

/-- a name-space object says x is u -/
def NsSays (o : Obj) (x : Str) (u : Value) : Prop := ∃ es ep, o.data = .dict es ep ∧ StrKeys es ∧ nsFind es x = some u

inductive NameAt (fx : Fx) (m : Str → Option Value) (news : List (Addr × Obj)) (x : Str) (u : Value) : Prop
  | loc : fx.env.kindOf x = some .local → fx.env.locals = fx.L → m x = some u → NameAt fx m news x u
  | comp {o : Obj} : fx.env.kindOf x = some .local → (fx.env.locals, o) ∈ fx.ex → NsSays o x u → NameAt fx m news x u
  | cell {c : Addr} {o : Obj} : fx.env.kindOf x = some .cell ∨ fx.env.kindOf x = some .free → fx.env.cells.lookup x = some c → (c, o) ∈ news → o.data = .cell (some u) → NameAt fx m news x u

structure Core (fx : Fx) (σ : St) (W : Wd) (m : Str → Option Value) (news : List (Addr × Obj)) : Prop where
  nd : (news.map (·.1)).Nodup
  exs : ∀ p ∈ fx.ex, p ∈ news
  exd : ∀ p ∈ fx.ex, p.1 ∉ W.al
  aln : W.al.Nodup
  len : W.al.length = σ.hp.length
  obs : ∀ (i : Nat) (o : O), σ.hp[i]? = some o → ∃ a ob, W.al[i]? = some a ∧ (a, ob) ∈ news ∧ OR W o a ob
  tps : ∀ t ∈ W.tp, (t.1, tupObj t.2) ∈ news
  loc : ∀ x v, σ.loc x = some v → ∃ u, VR W v u ∧ NameAt fx m news x u
  cel : ∀ x c, fx.env.cells.lookup x = some c → c ∉ W.al ∧ ∃ o v, (c, o) ∈ news ∧ o.data = .cell v
  scc : W.sc = fx.sc
  mfx : ∀ m₀, fx.mfix = some m₀ → m = m₀
  ext : ∀ p ∈ fx.ex, ∀ t ∈ W.tp, p.1 ≠ t.1

structure Rep (fx : Fx) (σ : St) (W : Wd) (s : Shared) : Prop where
  rest : s = { fx.s₀ with heap := s.heap, toks := s.toks }
  more : ∃ g m news, KtsTurn (fx.outer.filterMap (·.frame)) fx.h₀ g ∧ Fr g fx.L s.heap m ∧ News g fx.L s.heap news ∧ Core fx σ W m news

theorem Rep.elim {fx : Fx} {σ : St} {W : Wd} {s : Shared} {P : Prop} (R : Rep fx σ W s) (k : s = { fx.s₀ with heap := s.heap, toks := s.toks } → ∀ g m news, KtsTurn (fx.outer.filterMap (·.frame)) fx.h₀ g → Fr g fx.L s.heap m → News g fx.L s.heap news → Core fx σ W m news → P) : P := by
  obtain ⟨e, g, m, news, G, F, N, C⟩ := R
  exact k e g m news G F N C
theorem rest_with {s s₀ : Shared} (e : s = { s₀ with heap := s.heap, toks := s.toks }) (h : Heap) (t : Nat) : ({ s with heap := h, toks := t } : Shared) = { s₀ with heap := h, toks := t } := by
  rw [e]

theorem frKeeps {h₀ h h' : Heap} {L : Addr} {m : Str → Option Value} (F : Fr h₀ L h m) (k : ∀ b o, h.get? b = some o → h'.get? b = some o) : Fr h₀ L h' m :=
  ⟨F.ns.keeps k, fun b o e => k b o (F.keep b o e), F.above⟩
theorem newsKeeps {h₀ h h' : Heap} {L : Addr} {news : List (Addr × Obj)} (N : News h₀ L h news) (k : ∀ b o, h.get? b = some o → h'.get? b = some o) : News h₀ L h' news :=
  fun p hp => ⟨k _ _ (N p hp).1, (N p hp).2⟩

theorem Rep.keep {fx : Fx} {σ : St} {W : Wd} {s : Shared} (R : Rep fx σ W s) {h' : Heap} (tk : Nat) (k : ∀ b o, s.heap.get? b = some o → h'.get? b = some o) : Rep fx σ W { s with heap := h', toks := tk } := by
  refine R.elim fun e g m news G F N C => ?_
  exact ⟨rest_with e _ _, g, m, news, G, frKeeps F k, newsKeeps N k, C⟩

theorem Rep.toks {fx : Fx} {σ : St} {W : Wd} {s : Shared} (R : Rep fx σ W s) (tk : Nat) : Rep fx σ W { s with toks := tk } := by
  refine R.elim fun e g m news G F N C => ?_
  exact ⟨rest_with e _ _, g, m, news, G, F, N, C⟩

theorem newsNodup {h₀ h : Heap} {L : Addr} {news : List (Addr × Obj)} (N : News h₀ L h news) (nd : (news.map (·.1)).Nodup) (o : Obj) : (((h.objs.size, o) :: news).map (·.1)).Nodup := by
  rw [List.map_cons, List.nodup_cons]
  refine ⟨fun hm => ?_, nd⟩
  obtain ⟨p, hp, e⟩ := List.mem_map.mp hm
  have := Heap.lt_size (N p hp).1
  rw [show p.1 = h.objs.size from e] at this
  exact Nat.lt_irrefl _ this

theorem NameAt.mono {fx : Fx} {m : Str → Option Value} {news news' : List (Addr × Obj)} {x : Str} {u : Value} (h : ∀ p ∈ news, p ∈ news') : NameAt fx m news x u → NameAt fx m news' x u
  | .loc a b c => .loc a b c
  | .comp a b c => .comp a b c
  | .cell a b c d => .cell a b (h _ c) d

theorem Core.al_lt {fx : Fx} {σ : St} {W : Wd} {m : Str → Option Value} {news : List (Addr × Obj)} (C : Core fx σ W m news) {a : Addr} (ha : a ∈ W.al) : ∃ o, (a, o) ∈ news := by
  obtain ⟨i, hi, rfl⟩ := List.getElem_of_mem ha
  have hi' : i < σ.hp.length := C.len ▸ hi
  obtain ⟨a, ob, h1, h2, _⟩ := C.obs i σ.hp[i] (by simp [hi'])
  rw [List.getElem?_eq_getElem hi] at h1
  cases h1
  exact ⟨ob, h2⟩

/-- a new object of the abstract heap -/
theorem Rep.alloc {fx : Fx} {σ : St} {W : Wd} {s : Shared} (R : Rep fx σ W s) {o : O} {ob : Obj} (tk : Nat) (hf : ob.isFreed = false)
    (hr : ∀ W', W.le W' → OR W' o s.heap.objs.size ob) :
    ∃ W', W.le W' ∧ W'.al = W.al ++ [s.heap.objs.size] ∧ Rep fx ⟨σ.loc, σ.hp ++ [o]⟩ W' { s with heap := s.heap.push ob, toks := tk } := by
  refine R.elim fun e g m news G F N C => ?_
  have hle : W.le ⟨W.al ++ [s.heap.objs.size], W.tp, W.sc⟩ := ⟨List.prefix_append _ _, fun _ h => h, rfl⟩
  refine ⟨⟨W.al ++ [s.heap.objs.size], W.tp, W.sc⟩, hle, rfl, rest_with e _ _, g, m, (s.heap.objs.size, ob) :: news, G, F.push ob, N.push F ob hf, ?_⟩
  have fresh : ∀ p ∈ news, p.1 ≠ s.heap.objs.size := fun p hp => Nat.ne_of_lt (Heap.lt_size (N p hp).1)
  refine ⟨newsNodup N C.nd ob, fun p hp => .tail _ (C.exs p hp), fun p hp hm => ?_, ?_, ?_, fun i o' h => ?_, fun t ht => .tail _ (C.tps t ht), fun x v h => ?_, fun x c h => ?_, C.scc, C.mfx, C.ext⟩
  · rcases List.mem_append.mp hm with hm | hm
    · exact C.exd p hp hm
    · exact fresh p (C.exs p hp) (List.mem_singleton.mp hm)
  · refine List.nodup_append.mpr ⟨C.aln, by simp, fun a ha b hb => ?_⟩
    rw [List.mem_singleton.mp hb]
    obtain ⟨o', ho'⟩ := C.al_lt ha
    exact fresh _ ho'
  · simp [C.len]
  · dsimp only at h
    rcases Nat.lt_trichotomy i σ.hp.length with q | q | q
    · rw [List.getElem?_append_left q] at h
      obtain ⟨a, ob', h1, h2, h3⟩ := C.obs i o' h
      exact ⟨a, ob', prefix_get hle.1 h1, .tail _ h2, h3.mono hle⟩
    · subst q
      simp at h
      subst h
      exact ⟨_, ob, by simp [← C.len], .head _, hr _ hle⟩
    · rw [List.getElem?_eq_none (by simp; omega)] at h
      cases h
  · obtain ⟨u, h1, h2⟩ := C.loc x v h
    exact ⟨u, h1.mono hle, h2.mono fun p hp => .tail _ hp⟩
  · obtain ⟨h1, o', v, h2, h3⟩ := C.cel x c h
    refine ⟨fun hm => ?_, o', v, .tail _ h2, h3⟩
    rcases List.mem_append.mp hm with hm | hm
    · exact h1 hm
    · exact fresh _ h2 (List.mem_singleton.mp hm)


/-- an object joins the abstract heap -/
theorem Core.add {fx : Fx} {σ : St} {W : Wd} {m : Str → Option Value} {news : List (Addr × Obj)} (C : Core fx σ W m news) {a : Addr} {ob : Obj} {o : O} (fresh : ∀ p ∈ news, p.1 ≠ a) (hr : ∀ W', W.le W' → OR W' o a ob) :
    Core fx ⟨σ.loc, σ.hp ++ [o]⟩ ⟨W.al ++ [a], W.tp, W.sc⟩ m ((a, ob) :: news) := by
  have hle : W.le ⟨W.al ++ [a], W.tp, W.sc⟩ := ⟨List.prefix_append _ _, fun _ h => h, rfl⟩
  refine ⟨?_, fun p hp => .tail _ (C.exs p hp), fun p hp hm => ?_, ?_, ?_, fun i o' h => ?_, fun t ht => .tail _ (C.tps t ht), fun x v h => ?_, fun x c h => ?_, C.scc, C.mfx, C.ext⟩
  · rw [List.map_cons, List.nodup_cons]
    refine ⟨fun hm => ?_, C.nd⟩
    obtain ⟨p, hp, e⟩ := List.mem_map.mp hm
    exact fresh p hp e
  · rcases List.mem_append.mp hm with hm | hm
    · exact C.exd p hp hm
    · exact fresh p (C.exs p hp) (List.mem_singleton.mp hm)
  · refine List.nodup_append.mpr ⟨C.aln, by simp, fun b hb b' hb' => ?_⟩
    rw [List.mem_singleton.mp hb']
    obtain ⟨o', ho'⟩ := C.al_lt hb
    exact fresh _ ho'
  · simp [C.len]
  · dsimp only at h
    rcases Nat.lt_trichotomy i σ.hp.length with q | q | q
    · rw [List.getElem?_append_left q] at h
      obtain ⟨b, ob', h1, h2, h3⟩ := C.obs i o' h
      exact ⟨b, ob', prefix_get hle.1 h1, .tail _ h2, h3.mono hle⟩
    · subst q
      simp at h
      subst h
      exact ⟨_, ob, by simp [← C.len], .head _, hr _ hle⟩
    · rw [List.getElem?_eq_none (by simp; omega)] at h
      cases h
  · obtain ⟨u, h1, h2⟩ := C.loc x v h
    exact ⟨u, h1.mono hle, h2.mono fun p hp => .tail _ hp⟩
  · obtain ⟨h1, o', v, h2, h3⟩ := C.cel x c h
    refine ⟨fun hm => ?_, o', v, .tail _ h2, h3⟩
    rcases List.mem_append.mp hm with hm | hm
    · exact h1 hm
    · exact fresh _ h2 (List.mem_singleton.mp hm)

/-- the same, by what a rule of the library gives -/
theorem Rep.addN {fx : Fx} {σ : St} {W : Wd} {s : Shared} (er : s = { fx.s₀ with heap := s.heap, toks := s.toks }) {g : Heap} {m : Str → Option Value} {news : List (Addr × Obj)} (G : KtsTurn (fx.outer.filterMap (·.frame)) fx.h₀ g) (C : Core fx σ W m news) {D : Addr} {ob : Obj} {o : O} {h' : Heap}
    (F' : Fr g fx.L h' m) (N' : News g fx.L h' ((D, ob) :: news)) (fresh : ∀ p ∈ news, p.1 ≠ D) (hr : ∀ W', W.le W' → OR W' o D ob) :
    ∃ W', W.le W' ∧ W'.al[σ.hp.length]? = some D ∧ Rep fx ⟨σ.loc, σ.hp ++ [o]⟩ W' { s with heap := h' } :=
  ⟨⟨W.al ++ [D], W.tp, W.sc⟩, ⟨List.prefix_append _ _, fun _ h => h, rfl⟩, by simp [← C.len], by rw [er], g, m, _, G, F', N', C.add fresh hr⟩

/-- a new tuple -/
theorem Rep.newTup {fx : Fx} {σ : St} {W : Wd} {s : Shared} (R : Rep fx σ W s) (xs : List Value) (tk : Nat) :
    ∃ W', W.le W' ∧ (s.heap.objs.size, xs) ∈ W'.tp ∧ Rep fx σ W' { s with heap := s.heap.push (tupObj xs), toks := tk } := by
  refine R.elim fun e g m news G F N C => ?_
  have hle : W.le ⟨W.al, (s.heap.objs.size, xs) :: W.tp, W.sc⟩ := ⟨List.prefix_refl _, fun _ h => .tail _ h, rfl⟩
  refine ⟨⟨W.al, (s.heap.objs.size, xs) :: W.tp, W.sc⟩, hle, .head _, rest_with e _ _, g, m, (s.heap.objs.size, tupObj xs) :: news, G, F.push _, N.push F _, ?_⟩
  refine ⟨newsNodup N C.nd _, fun p hp => .tail _ (C.exs p hp), C.exd, C.aln, C.len, fun i o h => ?_, fun t ht => ?_, fun x v h => ?_, fun x c h => ?_, C.scc, C.mfx, fun p hp t ht => ?_⟩
  · obtain ⟨a, ob', h1, h2, h3⟩ := C.obs i o h
    exact ⟨a, ob', h1, .tail _ h2, h3.mono hle⟩
  · rcases List.mem_cons.mp ht with rfl | ht
    · exact .head _
    · exact .tail _ (C.tps t ht)
  · obtain ⟨u, h1, h2⟩ := C.loc x v h
    exact ⟨u, h1.mono hle, h2.mono fun p hp => .tail _ hp⟩
  · obtain ⟨h1, o', v, h2, h3⟩ := C.cel x c h
    exact ⟨h1, o', v, .tail _ h2, h3⟩
  · rcases List.mem_cons.mp ht with rfl | ht
    · exact Nat.ne_of_lt (Heap.lt_size (N p (C.exs p hp)).1)
    · exact C.ext p hp t ht

/-- a plain local is stored -/
theorem Rep.setLoc {fx : Fx} {σ : St} {W : Wd} {s : Shared} (R : Rep fx σ W s) {x : Str} {v : V} {u : Value} (hv : VR W v u) (hk : fx.env.kindOf x = some .local) (hL : fx.env.locals = fx.L) (hm : fx.mfix = none)
    (tk : Nat) {h' : Heap} {M : Str → Option Value} (hM : M x = some u) (hM' : ∀ y, y ≠ x → ∀ m, s.heap.Ns fx.L m → M y = m y) (hn : h'.Ns fx.L M) (hs : Heap.SameBut fx.L s.heap h') :
    Rep fx (σ.set x v) W { s with heap := h', toks := tk } := by
  refine R.elim fun e g m news G F N C => ?_
  refine ⟨rest_with e _ _, g, M, news, G, F.set hn hs, N.set hs, ?_⟩
  refine ⟨C.nd, C.exs, C.exd, C.aln, C.len, C.obs, C.tps, fun y w h => ?_, C.cel, C.scc, fun m₀ q => (by rw [hm] at q; cases q), C.ext⟩
  by_cases q : y = x
  · subst q
    simp [St.set, setN] at h
    subst h
    exact ⟨u, hv, .loc hk hL hM⟩
  · simp [St.set, setN, q] at h
    obtain ⟨u', h1, h2⟩ := C.loc y w h
    refine ⟨u', h1, ?_⟩
    cases h2 with
    | loc a b c => exact .loc a b ((hM' y q m F.ns).trans c)
    | comp a b c => exact .comp a b c
    | cell a b c d => exact .cell a b c d

/-- a plain local goes -/
theorem Rep.delLoc {fx : Fx} {σ : St} {W : Wd} {s : Shared} (R : Rep fx σ W s) {x : Str} (hm : fx.mfix = none) (hk : fx.env.kindOf x = some .local)
    (tk : Nat) {h' : Heap} {M : Str → Option Value} (hM' : ∀ y, y ≠ x → ∀ m, s.heap.Ns fx.L m → M y = m y) (hn : h'.Ns fx.L M) (hs : Heap.SameBut fx.L s.heap h') :
    Rep fx ⟨fun y => if y = x then none else σ.loc y, σ.hp⟩ W { s with heap := h', toks := tk } := by
  refine R.elim fun e g m news G F N C => ?_
  refine ⟨rest_with e _ _, g, M, news, G, F.set hn hs, N.set hs, ?_⟩
  refine ⟨C.nd, C.exs, C.exd, C.aln, C.len, C.obs, C.tps, fun y w h => ?_, C.cel, C.scc, fun m₀ q => (by rw [hm] at q; cases q), C.ext⟩
  dsimp only at h
  split at h
  · cases h
  · rename_i q
    obtain ⟨u', h1, h2⟩ := C.loc y w h
    refine ⟨u', h1, ?_⟩
    cases h2 with
    | loc a b c => exact .loc a b ((hM' y q m F.ns).trans c)
    | comp a b c => exact .comp a b c
    | cell a b c d => exact .cell a b c d

/-- what a frame stands under changes nothing of what it holds -/
theorem Core.cast {fx : Fx} {σ : St} {W : Wd} {m : Str → Option Value} {news : List (Addr × Obj)} {A A' : Around} {q q' : Bool} (C : Core { fx with A := A, qt := q } σ W m news) : Core { fx with A := A', qt := q' } σ W m news :=
  ⟨C.nd, C.exs, C.exd, C.aln, C.len, C.obs, C.tps, fun x v h => by
    obtain ⟨u, h1, h2⟩ := C.loc x v h
    refine ⟨u, h1, ?_⟩
    cases h2 with
    | loc a b c => exact .loc a b c
    | comp a b c => exact .comp a b c
    | cell a b c d => exact .cell a b c d, C.cel, C.scc, C.mfx, C.ext⟩
theorem Rep.cast {fx : Fx} {σ : St} {W : Wd} {s : Shared} {A A' : Around} {q q' : Bool} (R : Rep { fx with A := A, qt := q } σ W s) : Rep { fx with A := A', qt := q' } σ W s := by
  refine R.elim fun e g m news G F N C => ?_
  exact ⟨e, g, m, news, G, F, N, C.cast⟩

def setL (a : Addr) (ob : Obj) (news : List (Addr × Obj)) : List (Addr × Obj) := news.map fun p => if p.1 = a then (a, ob) else p
theorem setL_keys (a : Addr) (ob : Obj) (news : List (Addr × Obj)) : (setL a ob news).map (·.1) = news.map (·.1) := by
  unfold setL
  rw [List.map_map]
  refine List.map_congr_left fun p _ => ?_
  by_cases q : p.1 = a
  · simp [q]
  · simp [q]
theorem setL_self {a : Addr} {ob ob' : Obj} {news : List (Addr × Obj)} (h : (a, ob) ∈ news) : (a, ob') ∈ setL a ob' news := List.mem_map.mpr ⟨_, h, by simp⟩
theorem setL_ne {a : Addr} {ob' : Obj} {news : List (Addr × Obj)} {p : Addr × Obj} (h : p ∈ news) (q : p.1 ≠ a) : p ∈ setL a ob' news := List.mem_map.mpr ⟨_, h, by simp [q]⟩
theorem mem_setL {a : Addr} {ob' : Obj} {news : List (Addr × Obj)} {p : Addr × Obj} (h : p ∈ setL a ob' news) : (p = (a, ob') ∧ ∃ ob, (a, ob) ∈ news) ∨ (p ∈ news ∧ p.1 ≠ a) := by
  obtain ⟨q, hq, e⟩ := List.mem_map.mp h
  by_cases z : q.1 = a
  · simp [z] at e
    exact .inl ⟨e.symm, q.2, by rw [← z]; exact hq⟩
  · simp [z] at e
    subst e
    exact .inr ⟨hq, z⟩
theorem key_inj {news : List (Addr × Obj)} (nd : (news.map (·.1)).Nodup) {a : Addr} {o o' : Obj} (h : (a, o) ∈ news) (h' : (a, o') ∈ news) : o = o' := by
  induction news with
  | nil => cases h
  | cons p r ih =>
    rw [List.map_cons, List.nodup_cons] at nd
    rcases List.mem_cons.mp h with e | h
    · rcases List.mem_cons.mp h' with e' | h'
      · rw [← e'] at e; cases e; rfl
      · exact absurd (List.mem_map.mpr ⟨_, h', by rw [← e]⟩) nd.1
    · rcases List.mem_cons.mp h' with e' | h'
      · exact absurd (List.mem_map.mpr ⟨_, h, by rw [← e']⟩) nd.1
      · exact ih nd.2 h h'

theorem fr_upd {h₀ h h' : Heap} {L a : Addr} {m : Str → Option Value} {news : List (Addr × Obj)} {ob ob' : Obj} (F : Fr h₀ L h m) (N : News h₀ L h news) (hm : (a, ob) ∈ news)
    (hs : Heap.ExtBut a h h') (hg : h'.get? a = some ob') : Fr h₀ L h' m ∧ News h₀ L h' (setL a ob' news) := by
  have D := N _ hm
  refine ⟨⟨F.ns.extBut hs (Ne.symm D.2.1), fun b o e => hs b o (fun z => ?_) (F.keep b o e), F.above⟩, fun p hp => ?_⟩
  · have := D.2.2; rw [← z, e] at this; cases this
  · rcases mem_setL hp with ⟨rfl, _⟩ | ⟨hp, z⟩
    · exact ⟨hg, D.2⟩
    · exact ⟨hs _ _ z (N p hp).1, (N p hp).2⟩

theorem nodup_idx {α : Type} {l : List α} (nd : l.Nodup) : ∀ {i j : Nat} {a : α}, l[i]? = some a → l[j]? = some a → i = j := by
  induction l with
  | nil => intro i j a h; simp at h
  | cons x r ih =>
    rw [List.nodup_cons] at nd
    intro i j a hi hj
    cases i with
    | zero =>
      cases j with
      | zero => rfl
      | succ j =>
        simp at hi hj
        subst hi
        exact absurd (List.mem_of_getElem? hj) nd.1
    | succ i =>
      cases j with
      | zero =>
        simp at hi hj
        subst hj
        exact absurd (List.mem_of_getElem? hi) nd.1
      | succ j => exact congrArg (· + 1) (ih nd.2 (by simpa using hi) (by simpa using hj))

/-- an object of the abstract heap changes -/
theorem Core.upd {fx : Fx} {σ : St} {W : Wd} {m : Str → Option Value} {news : List (Addr × Obj)} (C : Core fx σ W m news) {i : Nat} {a : Addr} {o o' : O} {ob' : Obj} (ho : σ.hp[i]? = some o) (ha : W.al[i]? = some a) (hr : OR W o' a ob') : Core fx ⟨σ.loc, σ.hp.set i o'⟩ W m (setL a ob' news) := by
  obtain ⟨a', ob, h1, h2, h3⟩ := C.obs i o ho
  rw [ha] at h1
  cases h1
  have hin : a ∈ W.al := List.mem_of_getElem? ha
  have other : ∀ p ∈ news, p.1 ≠ a → p ∈ setL a ob' news := fun p hp q => setL_ne hp q
  refine ⟨by rw [setL_keys]; exact C.nd, fun p hp => other p (C.exs p hp) fun q => C.exd p hp (q ▸ hin), C.exd, C.aln, by simp [C.len], fun j o₁ h => ?_, fun t ht => other _ (C.tps t ht) fun q => ?_, fun x v h => ?_, fun x c h => ?_, C.scc, C.mfx, C.ext⟩
  · dsimp only at h
    by_cases q : j = i
    · subst q
      have hj : j < σ.hp.length := by
        rcases Nat.lt_or_ge j σ.hp.length with z | z
        · exact z
        · rw [List.getElem?_eq_none z] at ho; cases ho
      rw [List.getElem?_set_self hj] at h
      cases h
      exact ⟨a, ob', ha, setL_self h2, hr⟩
    · rw [List.getElem?_set_ne (Ne.symm q)] at h
      obtain ⟨b, ob₁, k1, k2, k3⟩ := C.obs j o₁ h
      refine ⟨b, ob₁, k1, other _ k2 fun z => q ?_, k3⟩
      dsimp only at z
      subst z
      exact nodup_idx C.aln k1 ha
  · dsimp only at q
    have := C.tps t ht
    rw [q] at this
    have e := key_inj C.nd this h2
    cases h3 with
    | list n r => injection e with e1; simp at e1
    | exn _ q2 => rw [← e] at q2; cases q2
    | tab _ x _ => have := x.1; rw [← e] at this; injection this with this; exact absurd this (by decide)
    | inst _ => injection e with e1; cases e1
    | att _ => injection e with e1; simp at e1
    | dic x => rw [← e] at x; injection x with x; exact absurd x (by decide)
  · obtain ⟨u, k1, k2⟩ := C.loc x v h
    refine ⟨u, k1, ?_⟩
    cases k2 with
    | loc p q r => exact .loc p q r
    | comp p q r => exact .comp p q r
    | cell p q r t => exact .cell p q (other _ r fun z => (C.cel x _ q).1 (by dsimp only at z; rw [z]; exact hin)) t
  · obtain ⟨k1, o₁, v, k2, k3⟩ := C.cel x c h
    exact ⟨k1, o₁, v, other _ k2 fun z => k1 (by dsimp only at z; rw [z]; exact hin), k3⟩

theorem Rep.upd {fx : Fx} {σ : St} {W : Wd} {s : Shared} (R : Rep fx σ W s) {i : Nat} {a : Addr} {o o' : O} {ob' : Obj} (ho : σ.hp[i]? = some o) (ha : W.al[i]? = some a) (hr : OR W o' a ob') (tk : Nat) {h' : Heap}
    (hs : Heap.ExtBut a s.heap h') (hg : h'.get? a = some ob') : Rep fx ⟨σ.loc, σ.hp.set i o'⟩ W { s with heap := h', toks := tk } := by
  refine R.elim fun e g m news G F N C => ?_
  obtain ⟨a', ob, h1, h2, h3⟩ := C.obs i o ho
  rw [ha] at h1
  cases h1
  obtain ⟨F', N'⟩ := fr_upd F N h2 hs hg
  exact ⟨rest_with e _ _, g, m, setL a ob' news, G, F', N', C.upd ho ha hr⟩

inductive Kd where
  | made | fly | held
/-- an exception within a frame: made there, come from a call, noted there -/
inductive FlyS (B : Heap) (l : List Env) (L e : Addr) (cls : Value) (h : Heap) : Kd → Prop
  | made {oe : Obj} {vs : Array Value} {a0 : Value} : B.StaysIn h → B.get? e = none → h.FunFrames B l → h.get? e = some oe → oe.cls = cls → oe.data = .fields vs → vs[0]? = some a0 → vs[1]? = some .none → FlyS B l L e cls h .made
  | fly {a0 : Value} : Heap.FlyingW B l e cls a0 h → FlyS B l L e cls h .fly
  | held {a0 : Value} : Heap.HeldW B l e cls a0 L h → FlyS B l L e cls h .held

theorem FlyS.stays {B : Heap} {l : List Env} {L e : Addr} {cls : Value} {h : Heap} {k : Kd} (x : FlyS B l L e cls h k) : B.StaysIn h ∧ B.get? e = none := by
  cases x with
  | made a b _ _ _ _ _ _ => exact ⟨a, b⟩
  | fly a => exact ⟨a.1, a.2.1⟩
  | held a => exact ⟨a.1, a.2.1⟩
theorem FlyS.there {B : Heap} {l : List Env} {L e : Addr} {cls : Value} {h : Heap} {k : Kd} (x : FlyS B l L e cls h k) : ∃ oe vs, h.get? e = some oe ∧ oe.cls = cls ∧ oe.data = .fields vs := by
  cases x with
  | made _ _ _ a b c _ _ => exact ⟨_, _, a, b, c⟩
  | fly a =>
    obtain ⟨_, _, _, oe, vs, T, oT, ts, h1, h2, h3, _⟩ := a
    exact ⟨oe, vs, h1, h2.1, h3⟩
  | held a =>
    obtain ⟨_, _, _, oe, vs, T, oT, ts, h1, h2, h3, _⟩ := a
    exact ⟨oe, vs, h1, h2.1, h3⟩

section
variable {M : Model} {A : Around} {E : Value → Shared → Prop} {s : Shared} {B : Heap} {env : Env} {outer : List Env} {L e : Addr} {cls : Value} {k : Kd}
theorem noteFly {Q : Unit → Shared → Prop} (hfr : A.frames = some (env :: outer)) (hf : env.frame = some L) (x : FlyS B (env :: outer) L e cls s.heap k)
    (h : ∀ h', FlyS B (env :: outer) L e cls h' .held → s.heap.UpToSlots h' → Q () { s with heap := h' }) : wpAny M A (noteFrame (.ref e) env) Q E s := by
  cases x with
  | made x1 x2 x3 x4 x5 x6 x7 x8 =>
    unfold noteFrame
    simp only [hf]
    refine wpAny_bind (wpAny_field x4 x6 x8 ?_)
    rw [if_neg (by decide)]
    refine wpAny_entryW hfr x3 hf x4 x1 x2 x6 (Array.getElem?_eq_some_iff.mp x8).1 x7 fun h' ⟨k1, k2, k3, k4⟩ => h h' (.held ⟨k1, x2, k2, x5 ▸ k3⟩) k4
  | fly x => exact wpAny_looks_onW hfr hf x fun h' hh hs => h h' (.held hh) hs
  | held x => exact wpAny_noteFrame_againW hf x.2.2.2 (h s.heap (.held x) (.refl _))
theorem landFly {Q : Unit → Shared → Prop} {l : List Env} (x : FlyS B l L e cls s.heap .held)
    (h : ∀ h', FlyS B l L e cls h' .fly → s.heap.UpToSlots h' → Q () { s with heap := h' }) : wpAny M A (setFlight (.ref e) none) Q E s := by
  cases x with
  | held x => exact wpAny_landsW x fun h' hh hs => h h' (.fly hh) hs
theorem leaveFly {Q : Unit → Shared → Prop} {L₁ : Addr} (hfr : A.frames = some (env :: outer)) (hf : env.frame = some L) (x : FlyS B (env :: outer) L e cls s.heap k)
    (h : ∀ h', FlyS B outer L₁ e cls h' .fly → s.heap.UpToSlots h' → Q () { s with heap := h' }) : wpAny M A (leaving env (.ref e)) Q E s := by
  unfold leaving
  refine wpAny_bind (noteFly hfr hf x fun h₁ x₁ u₁ => ?_)
  refine landFly x₁ fun h₂ x₂ u₂ => ?_
  cases x₂ with
  | fly y =>
    obtain ⟨k1, k2, ⟨_, _, k3⟩, k4⟩ := y
    exact h h₂ (.fly ⟨k1, k2, k3, k4⟩) (u₁.trans u₂)
theorem setFlightHeld {l : List Env} {a0 : Value} {Q : Unit → Shared → Prop} (R : Heap.HeldW B l e cls a0 L s.heap)
    (h : ∀ h', Heap.HeldW B l e cls a0 L h' → s.heap.UpToSlots h' → Q () { s with heap := h' }) : wpAny M A (setFlight (.ref e) (some L)) Q E s := by
  obtain ⟨r1, r2, r3, oe, vs, T, oT, ts, q1, q2, q3, q4, q5, q6, q7, q8, q9⟩ := R
  have big : 3 < ts.size := (Array.getElem?_eq_some_iff.mp q9).1
  have same : ∀ b, b ≠ T → (s.heap.update T (Obj.mapFields (·.setIfInBounds 3 ((some L).elim Value.none fun f => rawInt f)))).get? b = s.heap.get? b := fun b hb => Heap.get?_update_other _ _ (Ne.symm hb)
  have plain : ∀ b o, s.heap.get? b = some o → (∀ vs, o.data ≠ .fields vs) → b ≠ T := fun b o hb hnf q => hnf ts (by rw [q, q7] at hb; cases hb; exact q8)
  unfold setFlight
  refine wpAny_bind (wpAny_field q1 q3 q4 ?_)
  rw [if_pos (show (Value.ref T != Value.none) = true from by simp)]
  refine wpAny_setField q7 q8 big (h _ ⟨fun b o hb => ?_, r2, r3.of_keeps fun b o hb hnf => ⟨o, (same b (plain b o hb hnf)).trans hb, rfl⟩, ?_⟩ fun b o hb hnf => ⟨o.slots, (same b (plain b o hb hnf)).trans hb⟩)
  · exact (same b fun q => by rw [q, q5] at hb; cases hb).trans (r1 b o hb)
  · exact ⟨oe, vs, T, _, _, (same e (Ne.symm q6)).trans q1, q2, q3, q4, q5, q6, Heap.get?_update_self _ q7 (Obj.isFreed_of_fields (Obj.data_mapFields q8 _)), Obj.data_mapFields q8 _, by simp [big]⟩
theorem notedFly {Q : Value → Shared → Prop} (hfr : A.frames = some (env :: outer)) (hf : env.frame = some L) (x : FlyS B (env :: outer) L e cls s.heap k)
    (h : ∀ h', FlyS B (env :: outer) L e cls h' .held → s.heap.UpToSlots h' → Q (.ref e) { s with heap := h' }) : notedBy M A env (cameBackBy M A env Q) (.ref e) s := by
  unfold notedBy
  refine noteFly hfr hf x fun h₁ x₁ u₁ => ?_
  cases x₁ with
  | held y =>
    unfold cameBackBy
    obtain ⟨_, _, _, oe, vs, T, oT, ts, y1, y2, y3, y4, _⟩ := id y
    refine wpAny_bind (wpAny_field y1 y3 y4 ?_)
    rw [if_neg (show ¬ ((Value.ref T == Value.none) = true) from by simp)]
    rw [hf]
    exact setFlightHeld y fun h₂ x₂ u₂ => h h₂ (.held x₂) (u₁.trans u₂)
end

/-- what holds of a frame in which an exception flies -/
structure XCore (fx : Fx) (σ : St) (W : Wd) (g : Heap) (m : Str → Option Value) (news : List (Addr × Obj)) (B h : Heap) : Prop where
  turn : KtsTurn (fx.outer.filterMap (·.frame)) fx.h₀ g
  dic : KtsDicts (fx.outer.filterMap (·.frame)) g
  size : g.objs.size ≤ fx.L
  ns : h.Ns fx.L m
  gB : ∀ b o, g.get? b = some o → b ∉ (fx.fenv :: fx.outer).filterMap (·.frame) → B.get? b = some o
  fr : ∀ b o, g.get? b = some o → ∃ sl, h.get? b = some { o with slots := sl }
  nw : ∀ p ∈ news, B.get? p.1 = some p.2 ∧ p.1 ≠ fx.L ∧ g.get? p.1 = none
  core : Core fx σ W m news
  base : fx.base.StaysIn B

theorem mem_frames {env : Env} {outer : List Env} {L b : Addr} (hf : env.frame = some L) (hm : b ∈ (env :: outer).filterMap (·.frame)) : b = L ∨ b ∈ outer.filterMap (·.frame) := by
  obtain ⟨env', he, hf'⟩ := List.mem_filterMap.mp hm
  rcases List.mem_cons.mp he with rfl | he
  · rw [hf] at hf'
    exact .inl (Option.some.inj hf').symm
  · exact .inr (List.mem_filterMap.mpr ⟨env', he, hf'⟩)
theorem ground_self {g : Heap} {L : Addr} (h : g.objs.size ≤ L) : g.get? L = none := by
  cases q : g.get? L with
  | none => rfl
  | some o => exact absurd (Nat.lt_of_lt_of_le (Heap.lt_size q) h) (Nat.lt_irrefl _)
theorem XCore.up {fx : Fx} {σ : St} {W : Wd} {g B h h' : Heap} {m : Str → Option Value} {news : List (Addr × Obj)} (x : XCore fx σ W g m news B h) (hf : fx.fenv.frame = some fx.L) (st : B.StaysIn h') (u : h.UpToSlots h') : XCore fx σ W g m news B h' :=
  ⟨x.turn, x.dic, x.size, u.ns x.ns, x.gB, fun b o e => by
    by_cases q : b ∈ (fx.fenv :: fx.outer).filterMap (·.frame)
    · rcases mem_frames hf q with z | z
      · rw [z, ground_self x.size] at e
        cases e
      · obtain ⟨o', es, n, e1, e2⟩ := x.dic b z
        rw [e] at e1
        cases e1
        obtain ⟨sl, e3⟩ := x.fr b o e
        obtain ⟨sl', e4⟩ := u b { o with slots := sl } e3 fun vs y => by rw [show ({ o with slots := sl } : Obj).data = o.data from rfl, e2] at y; cases y
        exact ⟨sl', e4⟩
    · exact ⟨o.slots, st b o (x.gB b o e q)⟩, x.nw, x.core, x.base⟩

structure XRep (fx : Fx) (σ : St) (W : Wd) (e : Addr) (cls : Value) (k : Kd) (s : Shared) : Prop where
  rest : s = { fx.s₀ with heap := s.heap, toks := s.toks }
  more : ∃ g m news B, XCore fx σ W g m news B s.heap ∧ FlyS B (fx.fenv :: fx.outer) fx.L e cls s.heap k

section
variable {M : Model} {A : Around} {E : Value → Shared → Prop} {s : Shared} {fx : Fx} {σ : St} {W : Wd} {e : Addr} {cls : Value} {k : Kd}
theorem rest_heap {s s₀ : Shared} (e : s = { s₀ with heap := s.heap, toks := s.toks }) (h : Heap) : ({ s with heap := h } : Shared) = { s₀ with heap := h, toks := s.toks } := by
  rw [e]
theorem XRep.note {Q : Unit → Shared → Prop} (x : XRep fx σ W e cls k s) (hfr : A.frames = some (fx.fenv :: fx.outer)) (hf : fx.fenv.frame = some fx.L)
    (h : ∀ h', XRep fx σ W e cls .held { s with heap := h' } → Q () { s with heap := h' }) : wpAny M A (noteFrame (.ref e) fx.fenv) Q E s := by
  obtain ⟨r, g, m, news, B, c, f⟩ := x
  exact noteFly hfr hf f fun h' f' u => h h' ⟨rest_heap r _, g, m, news, B, c.up hf f'.stays.1 u, f'⟩
theorem XRep.land {Q : Unit → Shared → Prop} (x : XRep fx σ W e cls .held s) (hf : fx.fenv.frame = some fx.L)
    (h : ∀ h', XRep fx σ W e cls .fly { s with heap := h' } → Q () { s with heap := h' }) : wpAny M A (setFlight (.ref e) none) Q E s := by
  obtain ⟨r, g, m, news, B, c, f⟩ := x
  exact landFly f fun h' f' u => h h' ⟨rest_heap r _, g, m, news, B, c.up hf f'.stays.1 u, f'⟩
theorem XRep.again {Q : Unit → Shared → Prop} (x : XRep fx σ W e cls .fly s) (hf : fx.fenv.frame = some fx.L)
    (h : ∀ h', XRep fx σ W e cls .fly { s with heap := h' } → Q () { s with heap := h' }) : wpAny M A (setFlight (.ref e) none) Q E s := by
  obtain ⟨r, g, m, news, B, c, f⟩ := x
  cases f with
  | fly f => exact lands_againW f fun h' f' u => h h' ⟨rest_heap r _, g, m, news, B, c.up hf f'.1 u, .fly f'⟩
theorem XRep.noted {Q : Value → Shared → Prop} (x : XRep fx σ W e cls k s) (hfr : A.frames = some (fx.fenv :: fx.outer)) (hf : fx.fenv.frame = some fx.L)
    (h : ∀ h', XRep fx σ W e cls .held { s with heap := h' } → Q (.ref e) { s with heap := h' }) : notedBy M A fx.fenv (cameBackBy M A fx.fenv Q) (.ref e) s := by
  obtain ⟨r, g, m, news, B, c, f⟩ := x
  exact notedFly hfr hf f fun h' f' u => h h' ⟨rest_heap r _, g, m, news, B, c.up hf f'.stays.1 u, f'⟩
end

end Mine

set_option autoImplicit false
namespace Mine
open PySem PySem.W PySem.Calls PySem.Spec PyProof.Rows

abbrev XP := Value → St → Prop

def PV (fx : Fx) (W : Wd) (Q : V → St → Prop) : Value → Shared → Prop := fun u s' => ∃ W' σ' v, W.le W' ∧ Rep fx σ' W' s' ∧ VR W' v u ∧ Q v σ'
def PX (fx : Fx) (W : Wd) (X : XP) : Value → Shared → Prop := fun u s => ∃ e cls k W' σ', u = .ref e ∧ W.le W' ∧ XRep fx σ' W' e cls k s ∧ X cls σ'
def PVs (fx : Fx) (W : Wd) (Q : List V → St → Prop) : List Value → Shared → Prop := fun us s' => ∃ W' σ' vs, W.le W' ∧ Rep fx σ' W' s' ∧ VRs W' vs us ∧ Q vs σ'
def PB (fx : Fx) (W : Wd) (Q : Bool → St → Prop) : Bool → Shared → Prop := fun b s' => ∃ W' σ', W.le W' ∧ Rep fx σ' W' s' ∧ Q b σ'
def PU (fx : Fx) (W : Wd) (Q : St → Prop) : Unit → Shared → Prop := fun _ s' => ∃ W' σ', W.le W' ∧ Rep fx σ' W' s' ∧ Q σ'

theorem PV.elim {fx : Fx} {W : Wd} {Q : V → St → Prop} {u : Value} {s : Shared} {P : Prop} (x : PV fx W Q u s) (k : ∀ W' σ' v, W.le W' → Rep fx σ' W' s → VR W' v u → Q v σ' → P) : P := by
  obtain ⟨W', σ', v, a, b, c, d⟩ := x
  exact k W' σ' v a b c d
theorem PVs.elim {fx : Fx} {W : Wd} {Q : List V → St → Prop} {u : List Value} {s : Shared} {P : Prop} (x : PVs fx W Q u s) (k : ∀ W' σ' v, W.le W' → Rep fx σ' W' s → VRs W' v u → Q v σ' → P) : P := by
  obtain ⟨W', σ', v, a, b, c, d⟩ := x
  exact k W' σ' v a b c d
theorem PB.elim {fx : Fx} {W : Wd} {Q : Bool → St → Prop} {u : Bool} {s : Shared} {P : Prop} (x : PB fx W Q u s) (k : ∀ W' σ', W.le W' → Rep fx σ' W' s → Q u σ' → P) : P := by
  obtain ⟨W', σ', a, b, c⟩ := x
  exact k W' σ' a b c
theorem PU.elim {fx : Fx} {W : Wd} {Q : St → Prop} {u : Unit} {s : Shared} {P : Prop} (x : PU fx W Q u s) (k : ∀ W' σ', W.le W' → Rep fx σ' W' s → Q σ' → P) : P := by
  obtain ⟨W', σ', a, b, c⟩ := x
  exact k W' σ' a b c
theorem PV.mono {fx : Fx} {W W' : Wd} {Q Q' : V → St → Prop} (h : W.le W') (hq : ∀ v σ, Q v σ → Q' v σ) {u : Value} {s : Shared} : PV fx W' Q u s → PV fx W Q' u s := by
  rintro ⟨W₁, σ, v, a, b, c, d⟩
  exact ⟨W₁, σ, v, h.trans a, b, c, hq _ _ d⟩
theorem PX.mono {fx : Fx} {W W' : Wd} {X X' : XP} (h : W.le W') (hx : ∀ c hp, X c hp → X' c hp) {u : Value} {s : Shared} : PX fx W' X u s → PX fx W X' u s := by
  rintro ⟨e, cls, k, W₁, σ, a, b, c, d⟩
  exact ⟨e, cls, k, W₁, σ, a, h.trans b, c, hx _ _ d⟩
/-- no exception -/
def X0 : XP := fun _ _ => False
theorem PX.never {fx : Fx} {W : Wd} {u : Value} {s : Shared} : PX fx W X0 u s → False := by
  rintro ⟨_, _, _, _, _, _, _, _, d⟩
  exact d
theorem PVs.mono {fx : Fx} {W W' : Wd} {Q Q' : List V → St → Prop} (h : W.le W') (hq : ∀ v σ, Q v σ → Q' v σ) {u : List Value} {s : Shared} : PVs fx W' Q u s → PVs fx W Q' u s := by
  rintro ⟨W₁, σ, v, a, b, c, d⟩
  exact ⟨W₁, σ, v, h.trans a, b, c, hq _ _ d⟩
theorem PB.mono {fx : Fx} {W W' : Wd} {Q Q' : Bool → St → Prop} (h : W.le W') (hq : ∀ v σ, Q v σ → Q' v σ) {u : Bool} {s : Shared} : PB fx W' Q u s → PB fx W Q' u s := by
  rintro ⟨W₁, σ, a, b, d⟩
  exact ⟨W₁, σ, h.trans a, b, hq _ _ d⟩
/-- an expression's run -/
def EvE (fx : Fx) (X : XP) (e : Expr) (σ : St) (Q : V → St → Prop) : Prop := ∀ W s, Rep fx σ W s → wpAny fx.M fx.A (eval e fx.env) (PV fx W Q) (PX fx W X) s
/-- the elements of a display, the arguments of a call -/
def EvEs (fx : Fx) (X : XP) (es : List Expr) (σ : St) (Q : List V → St → Prop) : Prop :=
  ∀ W s pos, Rep fx σ W s → wpAny fx.M fx.A (spliced (backTo pos (starEach es fx.env))) (PVs fx W Q) (PX fx W X) s
def EvB (fx : Fx) (X : XP) (e : Expr) (σ : St) (Q : Bool → St → Prop) : Prop := ∀ W s, Rep fx σ W s → wpAny fx.M fx.A (isTrue e fx.env (eval e fx.env)) (PB fx W Q) (PX fx W X) s

section
variable {fx : Fx} {X : XP} {σ : St}

theorem EvE.mono {e : Expr} {Q Q' : V → St → Prop} (h : EvE fx X e σ Q) (hq : ∀ v σ', Q v σ' → Q' v σ') : EvE fx X e σ Q' :=
  fun W s R => wpAny_mono (h W s R) (fun _ _ x => x.mono (.refl _) hq) fun _ _ x => x
theorem EvEs.mono {e : List Expr} {Q Q' : List V → St → Prop} (h : EvEs fx X e σ Q) (hq : ∀ v σ', Q v σ' → Q' v σ') : EvEs fx X e σ Q' :=
  fun W s p R => wpAny_mono (h W s p R) (fun _ _ x => x.mono (.refl _) hq) fun _ _ x => x
theorem EvB.mono {e : Expr} {Q Q' : Bool → St → Prop} (h : EvB fx X e σ Q) (hq : ∀ v σ', Q v σ' → Q' v σ') : EvB fx X e σ Q' :=
  fun W s R => wpAny_mono (h W s R) (fun _ _ x => x.mono (.refl _) hq) fun _ _ x => x

theorem PV.here {Q : V → St → Prop} {W : Wd} {s : Shared} {v : V} {u : Value} (R : Rep fx σ W s) (r : VR W v u) (q : Q v σ) : PV fx W Q u s := ⟨W, σ, v, .refl _, R, r, q⟩
theorem PB.here {Q : Bool → St → Prop} {W : Wd} {s : Shared} {b : Bool} (R : Rep fx σ W s) (q : Q b σ) : PB fx W Q b s := ⟨W, σ, .refl _, R, q⟩

theorem evConstInt {i : Int} {k : Nat} {pos : Pos} {Q : V → St → Prop} (h : Q (.int i) σ) : EvE fx X (.Constant (.int i) k pos) σ Q :=
  fun _ _ R => wpAny_Constant_int (.here (R.toks _) (.int _ _) h)
theorem evConstStr {x : Str} {k : Nat} {pos : Pos} {Q : V → St → Prop} (h : Q (.str x) σ) : EvE fx X (.Constant (.str x) k pos) σ Q :=
  fun _ _ R => Constant_str (.here (R.toks _) (.str _ _) h)
theorem evConstBool {b : Bool} {k : Nat} {pos : Pos} {Q : V → St → Prop} (h : Q (.bool b) σ) : EvE fx X (.Constant (.bool b) k pos) σ Q :=
  fun _ _ R => Constant_bool (.here R (.bool _) h)
theorem evConstNone {k : Nat} {pos : Pos} {Q : V → St → Prop} (h : Q .none σ) : EvE fx X (.Constant .none k pos) σ Q :=
  fun _ _ R => Constant_none (.here R .none h)

/-- the frame's own facts -/
structure FxOk (fx : Fx) : Prop where
  kind : fx.env.scope.kind = .function
  handled : fx.qt = true → fx.A.handled = none

theorem evName (ok : FxOk fx) {x : Str} {pos : Pos} {v : V} {Q : V → St → Prop} (hv : σ.loc x = some v) (h : Q v σ) (hd : (x == ("__debug__" : Str)) = false) (hc : (x == ("__classdict__" : Str)) = false) :
    EvE fx X (.Name x pos) σ Q := by
  intro W s R
  obtain ⟨_, g, m, news, G, F, N, C⟩ := id R
  obtain ⟨u, r, n⟩ := C.loc x v hv
  refine wpAny_Name ?_ hd
  cases n with
  | loc a b c => exact wpAny_loadName_local ok.kind a (by rw [b]; exact F.ns) c (.here R r h)
  | @comp o a b c =>
    obtain ⟨es, ep, c1, c2, c3⟩ := c
    exact wpAny_loadName_local (m := nsFind es) ok.kind a ⟨o, es, ep, (N _ (C.exs _ b)).1, c1, c2, fun _ => rfl⟩ c3 (.here R r h)
  | @cell c o a b d e =>
    rcases a with a | a
    · exact wpAny_loadName_cell ok.kind a b ⟨o, N.get d, e⟩ (.here R r h)
    · exact wpAny_loadName_free ok.kind a b ⟨o, N.get d, e⟩ (.here R r h) hc

def BinT (fx : Fx) (X : XP) (op : Operator) (a b : V) (σ : St) (Q : V → St → Prop) : Prop :=
  ∀ W s u₁ u₂, Rep fx σ W s → VR W a u₁ → VR W b u₂ → wpAny fx.M fx.A (binaryOp op u₁ u₂) (PV fx W Q) (PX fx W X) s
theorem evBin {l r : Expr} {op : Operator} {pos : Pos} {Q : V → St → Prop} (h : EvE fx X l σ (fun a σ₁ => EvE fx X r σ₁ (fun b σ₂ => BinT fx X op a b σ₂ Q))) : EvE fx X (.BinOp l op r pos) σ Q := by
  intro W s R
  refine wpAny_BinOp (wpAny_mono (h W s R) ?_ fun _ _ x => x)
  refine fun u₁ s₁ zz => zz.elim fun W₁ σ₁ a le₁ R₁ r₁ h₁ => ?_
  refine wpAny_mono (h₁ W₁ s₁ R₁) ?_ fun _ _ x => x.mono le₁ fun _ _ y => y
  refine fun u₂ s₂ zz => zz.elim fun W₂ σ₂ b le₂ R₂ r₂ h₂ => ?_
  exact wpAny_mono (h₂ W₂ s₂ u₁ u₂ R₂ (r₁.mono le₂) r₂) (fun _ _ x => x.mono (le₁.trans le₂) fun _ _ y => y) fun _ _ x => x.mono (le₁.trans le₂) fun _ _ y => y

def UnT (fx : Fx) (X : XP) (op : UnaryOp) (a : V) (σ : St) (Q : V → St → Prop) : Prop :=
  ∀ W s u, Rep fx σ W s → VR W a u → wpAny fx.M fx.A (unaryOp op u) (PV fx W Q) (PX fx W X) s
theorem evUn {l : Expr} {op : UnaryOp} {pos : Pos} {Q : V → St → Prop} (h : EvE fx X l σ (fun a σ₁ => UnT fx X op a σ₁ Q)) : EvE fx X (.UnaryOp op l pos) σ Q := by
  intro W s R
  refine UnaryOp_ (wpAny_mono (h W s R) ?_ fun _ _ x => x)
  refine fun u₁ s₁ zz => zz.elim fun W₁ σ₁ a le₁ R₁ r₁ h₁ => ?_
  exact wpAny_mono (h₁ W₁ s₁ u₁ R₁ r₁) (fun _ _ x => x.mono le₁ fun _ _ y => y) fun _ _ x => x.mono le₁ fun _ _ y => y

def TruT (fx : Fx) (X : XP) (a : V) (σ : St) (Q : Bool → St → Prop) : Prop :=
  ∀ W s u, Rep fx σ W s → VR W a u → wpAny fx.M fx.A (truthy u) (PB fx W Q) (PX fx W X) s

theorem evAnd {e₁ e₂ : Expr} {rest : List Expr} {pos : Pos} {Q : V → St → Prop}
    (h : EvE fx X e₁ σ (fun v σ₁ => TruT fx X v σ₁ (fun c σ₂ => if c then EvE fx X (.BoolOp .And (e₂ :: rest) pos) σ₂ Q else Q v σ₂))) : EvE fx X (.BoolOp .And (e₁ :: e₂ :: rest) pos) σ Q := by
  intro W s R
  refine BoolOp_and (wpAny_mono (h W s R) ?_ fun _ _ x => x)
  refine fun u₁ s₁ zz => zz.elim fun W₁ σ₁ a le₁ R₁ r₁ h₁ => ?_
  refine wpAny_mono (h₁ W₁ s₁ u₁ R₁ r₁) ?_ fun _ _ x => x.mono le₁ fun _ _ y => y
  refine fun c s₂ zz => zz.elim fun W₂ σ₂ le₂ R₂ h₂ => ?_
  cases c with
  | true => exact wpAny_mono (h₂ W₂ s₂ R₂) (fun _ _ x => x.mono (le₁.trans le₂) fun _ _ y => y) fun _ _ x => x.mono (le₁.trans le₂) fun _ _ y => y
  | false => exact ⟨W₂, σ₂, a, le₁.trans le₂, R₂, r₁.mono le₂, h₂⟩
theorem evBoolOne {op : BoolOp} {e : Expr} {pos : Pos} {Q : V → St → Prop} (h : EvE fx X e σ Q) : EvE fx X (.BoolOp op [e] pos) σ Q := fun W s R => BoolOp_one (h W s R)

def CmpT (fx : Fx) (X : XP) (op : CmpOp) (a b : V) (σ : St) (Q : V → St → Prop) : Prop :=
  ∀ W s u₁ u₂, Rep fx σ W s → VR W a u₁ → VR W b u₂ → wpAny fx.M fx.A (compareOp op u₁ u₂) (PV fx W Q) (PX fx W X) s
theorem evCmp1 {l r : Expr} {op : CmpOp} {pos : Pos} {Q : V → St → Prop} (h : EvE fx X l σ (fun a σ₁ => EvE fx X r σ₁ (fun b σ₂ => CmpT fx X op a b σ₂ Q))) (hm : behindInMarks op r = false) : EvE fx X (.Compare l [op] [r] pos) σ Q := by
  intro W s R
  refine wpAny_Compare1 (wpAny_mono (h W s R) ?_ fun _ _ x => x) hm
  refine fun u₁ s₁ zz => zz.elim fun W₁ σ₁ a le₁ R₁ r₁ h₁ => ?_
  refine wpAny_mono (h₁ W₁ s₁ R₁) ?_ fun _ _ x => x.mono le₁ fun _ _ y => y
  refine fun u₂ s₂ zz => zz.elim fun W₂ σ₂ b le₂ R₂ r₂ h₂ => ?_
  exact wpAny_mono (h₂ W₂ s₂ u₁ u₂ R₂ (r₁.mono le₂) r₂) (fun _ _ x => x.mono (le₁.trans le₂) fun _ _ y => y) fun _ _ x => x.mono (le₁.trans le₂) fun _ _ y => y
theorem evB_cmp1 {l r : Expr} {op : CmpOp} {pos : Pos} {Q : Bool → St → Prop} (h : EvE fx X l σ (fun a σ₁ => EvE fx X r σ₁ (fun b σ₂ => CmpT fx X op a b σ₂ (fun c σ₃ => TruT fx X c σ₃ Q)))) (hm : behindInMarks op r = false) : EvB fx X (.Compare l [op] [r] pos) σ Q := by
  intro W s R
  refine wpAny_isTrue_Compare1 (wpAny_mono (h W s R) ?_ fun _ _ x => x) hm
  refine fun u₁ s₁ zz => zz.elim fun W₁ σ₁ a le₁ R₁ r₁ h₁ => ?_
  refine wpAny_mono (h₁ W₁ s₁ R₁) ?_ fun _ _ x => x.mono le₁ fun _ _ y => y
  refine fun u₂ s₂ zz => zz.elim fun W₂ σ₂ b le₂ R₂ r₂ h₂ => ?_
  refine wpAny_mono (h₂ W₂ s₂ u₁ u₂ R₂ (r₁.mono le₂) r₂) ?_ fun _ _ x => x.mono (le₁.trans le₂) fun _ _ y => y
  refine fun u₃ s₃ zz => zz.elim fun W₃ σ₃ c le₃ R₃ r₃ h₃ => ?_
  exact wpAny_mono (h₃ W₃ s₃ u₃ R₃ r₃) (fun _ _ x => x.mono ((le₁.trans le₂).trans le₃) fun _ _ y => y) fun _ _ x => x.mono ((le₁.trans le₂).trans le₃) fun _ _ y => y

theorem evB_not {e : Expr} {pos : Pos} {Q : Bool → St → Prop} (h : EvB fx X e σ (fun c σ₁ => Q (!c) σ₁)) : EvB fx X (.UnaryOp .Not e pos) σ Q :=
  fun W s R => isTrue_not (wpAny_mono (h W s R) (fun _ _ ⟨W₁, σ₁, a, b, c⟩ => ⟨W₁, σ₁, a, b, c⟩) fun _ _ x => x)
theorem evB_and_nil {pos : Pos} {Q : Bool → St → Prop} (h : Q true σ) : EvB fx X (.BoolOp .And [] pos) σ Q := fun _ _ R => isTrue_and_nil (.here R h)
theorem evB_or_nil {pos : Pos} {Q : Bool → St → Prop} (h : Q false σ) : EvB fx X (.BoolOp .Or [] pos) σ Q := fun _ _ R => isTrue_or_nil (.here R h)
theorem evB_and {e : Expr} {rest : List Expr} {pos : Pos} {Q : Bool → St → Prop} (h : EvB fx X e σ (fun c σ₁ => if c then EvB fx X (.BoolOp .And rest pos) σ₁ Q else Q false σ₁)) : EvB fx X (.BoolOp .And (e :: rest) pos) σ Q := by
  intro W s R
  refine isTrue_and (wpAny_mono (h W s R) ?_ fun _ _ x => x)
  refine fun c s₁ zz => zz.elim fun W₁ σ₁ le₁ R₁ h₁ => ?_
  cases c with
  | true => exact wpAny_mono (h₁ W₁ s₁ R₁) (fun _ _ x => x.mono le₁ fun _ _ y => y) fun _ _ x => x.mono le₁ fun _ _ y => y
  | false => exact ⟨W₁, σ₁, le₁, R₁, h₁⟩
theorem evB_or {e : Expr} {rest : List Expr} {pos : Pos} {Q : Bool → St → Prop} (h : EvB fx X e σ (fun c σ₁ => if c then Q true σ₁ else EvB fx X (.BoolOp .Or rest pos) σ₁ Q)) : EvB fx X (.BoolOp .Or (e :: rest) pos) σ Q := by
  intro W s R
  refine isTrue_or (wpAny_mono (h W s R) ?_ fun _ _ x => x)
  refine fun c s₁ zz => zz.elim fun W₁ σ₁ le₁ R₁ h₁ => ?_
  cases c with
  | false => exact wpAny_mono (h₁ W₁ s₁ R₁) (fun _ _ x => x.mono le₁ fun _ _ y => y) fun _ _ x => x.mono le₁ fun _ _ y => y
  | true => exact ⟨W₁, σ₁, le₁, R₁, h₁⟩
theorem evB_plain {e : Expr} {Q : Bool → St → Prop} (h : EvE fx X e σ (fun v σ₁ => TruT fx X v σ₁ Q)) (he : ∀ env whole, isTrue e env whole = (do let v ← whole; standAt e.pos; holding [v] (truthy v))) : EvB fx X e σ Q := by
  intro W s R
  refine isTrue_plain (wpAny_mono (h W s R) ?_ fun _ _ x => x) (he _ _)
  refine fun u₁ s₁ zz => zz.elim fun W₁ σ₁ a le₁ R₁ r₁ h₁ => ?_
  exact wpAny_mono (h₁ W₁ s₁ u₁ R₁ r₁) (fun _ _ x => x.mono le₁ fun _ _ y => y) fun _ _ x => x.mono le₁ fun _ _ y => y

/-- arguments and elements -/
theorem evEs_nil {Q : List V → St → Prop} (h : Q [] σ) : EvEs fx X [] σ Q := fun W _ _ R => spliced_none ⟨W, σ, [], .refl _, R, .nil, h⟩
theorem evEs_cons {e : Expr} {rest : List Expr} {Q : List V → St → Prop} (h : EvE fx X e σ (fun v σ₁ => EvEs fx X rest σ₁ (fun vs σ₂ => Q (v :: vs) σ₂))) (hs : ∀ env, starEach (e :: rest) env = (false, eval e env) :: starEach rest env) : EvEs fx X (e :: rest) σ Q := by
  intro W s pos R
  refine spliced_more (wpAny_mono (h W s R) ?_ fun _ _ x => x) (hs _)
  refine fun u₁ s₁ zz => zz.elim fun W₁ σ₁ a le₁ R₁ r₁ h₁ => ?_
  refine wpAny_mono (h₁ W₁ s₁ pos R₁) ?_ fun _ _ x => x.mono le₁ fun _ _ y => y
  refine fun us s₂ zz => zz.elim fun W₂ σ₂ vs le₂ R₂ r₂ h₂ => ?_
  exact ⟨W₂, σ₂, a :: vs, le₁.trans le₂, R₂, .cons (r₁.mono le₂) r₂, h₂⟩

theorem evTuple {es : List Expr} {k : Nat} {pos : Pos} {Q : V → St → Prop} (h : EvEs fx X es σ (fun vs σ₁ => vs.length ≤ sizeLine ∧ Q (.tup vs) σ₁)) : EvE fx X (.Tuple es k pos) σ Q := by
  intro W s R
  refine Tuple_ (wpAny_mono (h W s pos R) ?_ fun _ _ x => x)
  rintro us s₁ ⟨W₁, σ₁, vs, le₁, R₁, r₁, h₁, h₂⟩
  obtain ⟨W₂, le₂, hm, R₂⟩ := R₁.newTup us s₁.toks
  exact wpAny_newObj_type ⟨W₂, σ₁, .tup vs, le₁.trans le₂, R₂, .tup hm (r₁.mono le₂), h₂⟩ (by show us.toArray.size ≤ sizeLine; rw [List.size_toArray, ← r₁.length]; exact h₁)
theorem evList {es : List Expr} {pos : Pos} {Q : V → St → Prop} (h : EvEs fx X es σ (fun vs σ₁ => vs.length ≤ sizeLine ∧ Q (.ref σ₁.hp.length) ⟨σ₁.loc, σ₁.hp ++ [.list vs]⟩)) : EvE fx X (.List es pos) σ Q := by
  intro W s R
  refine List_ (wpAny_mono (h W s pos R) ?_ fun _ _ x => x)
  rintro us s₁ ⟨W₁, σ₁, vs, le₁, R₁, r₁, h₁, h₂⟩
  obtain ⟨W₂, le₂, hm, R₂⟩ := R₁.alloc (o := .list vs) (ob := listObj us 0) s₁.toks rfl fun W' le => .list 0 (r₁.mono le)
  refine wpAny_newObj_type ⟨W₂, _, .ref σ₁.hp.length, le₁.trans le₂, R₂, .ref ?_, h₂⟩ (by show us.toArray.size ≤ sizeLine; rw [List.size_toArray, ← r₁.length]; exact h₁)
  refine R₁.elim fun _ g m news G F N C => ?_
  rw [hm, ← C.len]
  simp
end
end Mine

set_option autoImplicit false
namespace Mine
open PySem PySem.W PySem.Calls PySem.Spec PyProof.Rows

def Fx.pushL (fx : Fx) (ps : List (Addr × Obj)) : Fx := { fx with ex := ps ++ fx.ex }

structure ExOk (fx : Fx) (ps : List (Addr × Obj)) : Prop where
  nd : (ps.map (·.1)).Nodup
  dis : ∀ p ∈ fx.ex, p.1 ∉ ps.map (·.1)
  cel : ∀ x c, fx.env.cells.lookup x = some c → c ∉ ps.map (·.1)
  loc : fx.env.locals ∉ ps.map (·.1)

theorem mem_keys {ps : List (Addr × Obj)} {a : Addr} (h : a ∈ ps.map (·.1)) : ∃ o, (a, o) ∈ ps := by
  obtain ⟨p, hp, rfl⟩ := List.mem_map.mp h
  exact ⟨p.2, hp⟩

theorem nodup_filter_keys {news : List (Addr × Obj)} (nd : (news.map (·.1)).Nodup) (f : Addr × Obj → Bool) : ((news.filter f).map (·.1)).Nodup :=
  (List.filter_sublist.map _).nodup nd

/-- the frame's own things change, the rest stays -/
theorem Rep.exSwap {fx : Fx} {σ : St} {W : Wd} {s : Shared} {ps : List (Addr × Obj)} (R : Rep (fx.pushL ps) σ W s) (ok : ExOk fx ps) (ps' : List (Addr × Obj)) (hk : ps'.map (·.1) = ps.map (·.1)) (tk : Nat) {h' : Heap}
    (hs : ∀ b o, b ∉ ps.map (·.1) → s.heap.get? b = some o → h'.get? b = some o) (hg : ∀ p ∈ ps', h'.get? p.1 = some p.2) : Rep (fx.pushL ps') σ W { s with heap := h', toks := tk } := by
  refine R.elim fun e g m news G F N C => ?_
  have hpn : ∀ p ∈ ps, p ∈ news := fun p hp => C.exs p (List.mem_append_left _ hp)
  have hin : ∀ a ∈ ps.map (·.1), a ≠ fx.L ∧ g.get? a = none := fun a ha => by
    obtain ⟨o, ho⟩ := mem_keys ha
    exact (N _ (hpn _ ho)).2
  have hL : fx.L ∉ ps.map (·.1) := fun q => (hin _ q).1 rfl
  have hal : ∀ a ∈ W.al, a ∉ ps.map (·.1) := fun a ha q => by
    obtain ⟨o, ho⟩ := mem_keys q
    exact C.exd _ (List.mem_append_left _ ho) ha
  let f : Addr × Obj → Bool := fun p => decide (p.1 ∉ ps.map (·.1))
  have keepM : ∀ p ∈ news, p.1 ∉ ps.map (·.1) → p ∈ ps' ++ news.filter f := fun p hp q => List.mem_append_right _ (List.mem_filter.mpr ⟨hp, by simpa [f] using q⟩)
  refine ⟨rest_with e _ _, g, m, ps' ++ news.filter f, G, ⟨F.ns.at' fun o q => hs _ o hL q, fun b o q => hs b o (fun z => ?_) (F.keep b o q), F.above⟩, fun p hp => ?_, ?_⟩
  · have := (hin b z).2
    rw [show g.get? b = some o from q] at this; cases this
  · rcases List.mem_append.mp hp with hp | hp
    · exact ⟨hg p hp, hin p.1 (hk ▸ List.mem_map_of_mem hp)⟩
    · obtain ⟨h1, h2⟩ := List.mem_filter.mp hp
      exact ⟨hs _ _ (by simpa [f] using h2) (N p h1).1, (N p h1).2⟩
  refine ⟨?_, fun p hp => ?_, fun p hp => ?_, C.aln, C.len, fun i o h => ?_, fun t ht' => ?_, fun x v h => ?_, fun x c h => ?_, C.scc, C.mfx, fun p hp t ht' => ?_⟩
  · rw [List.map_append]
    refine List.nodup_append.mpr ⟨hk ▸ ok.nd, nodup_filter_keys C.nd f, fun a ha b hb q => ?_⟩
    rw [hk] at ha
    obtain ⟨p, hp, rfl⟩ := List.mem_map.mp hb
    have := (List.mem_filter.mp hp).2
    simp only [f, decide_eq_true_eq] at this
    exact this (q ▸ ha)
  · rcases List.mem_append.mp hp with hp | hp
    · exact List.mem_append_left _ hp
    · exact keepM p (C.exs p (List.mem_append_right _ hp)) (ok.dis p hp)
  · rcases List.mem_append.mp hp with hp | hp
    · exact fun q => hal _ q (hk ▸ List.mem_map_of_mem hp)
    · exact C.exd p (List.mem_append_right _ hp)
  · obtain ⟨a, ob, h1, h2, h3⟩ := C.obs i o h
    exact ⟨a, ob, h1, keepM _ h2 (hal a (List.mem_of_getElem? h1)), h3⟩
  · refine keepM _ (C.tps t ht') fun q => ?_
    obtain ⟨o, ho⟩ := mem_keys q
    exact C.ext _ (List.mem_append_left _ ho) t ht' rfl
  · obtain ⟨u, h1, h2⟩ := C.loc x v h
    refine ⟨u, h1, ?_⟩
    cases h2 with
    | loc a b c => exact .loc a b c
    | @comp o a b c =>
      refine .comp (o := o) a (List.mem_append_right _ ?_) c
      rcases List.mem_append.mp b with b | b
      · exact absurd (List.mem_map_of_mem (f := (·.1)) b) ok.loc
      · exact b
    | cell a b c d => exact .cell a b (keepM _ c (ok.cel x _ b)) d
  · obtain ⟨h1, o, v, h2, h3⟩ := C.cel x c h
    exact ⟨h1, o, v, keepM _ h2 (ok.cel x c h), h3⟩
  · rcases List.mem_append.mp hp with hp | hp
    · obtain ⟨o, ho⟩ := mem_keys (ps := ps) (a := p.1) (by rw [← hk]; exact List.mem_map_of_mem (f := (·.1)) hp)
      exact C.ext _ (List.mem_append_left _ ho) t ht'
    · exact C.ext p (List.mem_append_right _ hp) t ht'

theorem Rep.exDrop {fx : Fx} {σ : St} {W : Wd} {s : Shared} {ps : List (Addr × Obj)} (R : Rep (fx.pushL ps) σ W s) (ok : ExOk fx ps) (tk : Nat) {h' : Heap}
    (hs : ∀ b o, b ∉ ps.map (·.1) → s.heap.get? b = some o → h'.get? b = some o) : Rep fx σ W { s with heap := h', toks := tk } := by
  refine R.elim fun e g m news G F N C => ?_
  have hpn : ∀ p ∈ ps, p ∈ news := fun p hp => C.exs p (List.mem_append_left _ hp)
  have hin : ∀ a ∈ ps.map (·.1), a ≠ fx.L ∧ g.get? a = none := fun a ha => by
    obtain ⟨o, ho⟩ := mem_keys ha
    exact (N _ (hpn _ ho)).2
  have hL : fx.L ∉ ps.map (·.1) := fun q => (hin _ q).1 rfl
  have hal : ∀ a ∈ W.al, a ∉ ps.map (·.1) := fun a ha q => by
    obtain ⟨o, ho⟩ := mem_keys q
    exact C.exd _ (List.mem_append_left _ ho) ha
  let f : Addr × Obj → Bool := fun p => decide (p.1 ∉ ps.map (·.1))
  have keepM : ∀ p ∈ news, p.1 ∉ ps.map (·.1) → p ∈ news.filter f := fun p hp q => List.mem_filter.mpr ⟨hp, by simpa [f] using q⟩
  refine ⟨rest_with e _ _, g, m, news.filter f, G, ⟨F.ns.at' fun o q => hs _ o hL q, fun b o q => hs b o (fun z => ?_) (F.keep b o q), F.above⟩, fun p hp => ?_, ?_⟩
  · have := (hin b z).2
    rw [show g.get? b = some o from q] at this; cases this
  · obtain ⟨h1, h2⟩ := List.mem_filter.mp hp
    exact ⟨hs _ _ (by simpa [f] using h2) (N p h1).1, (N p h1).2⟩
  refine ⟨nodup_filter_keys C.nd f, fun p hp => keepM p (C.exs p (List.mem_append_right _ hp)) (ok.dis p hp), fun p hp => C.exd p (List.mem_append_right _ hp), C.aln, C.len, fun i o h => ?_, fun t ht' => ?_, fun x v h => ?_, fun x c h => ?_, C.scc, C.mfx, fun p hp t ht' => C.ext p (List.mem_append_right _ hp) t ht'⟩
  · obtain ⟨a, ob, h1, h2, h3⟩ := C.obs i o h
    exact ⟨a, ob, h1, keepM _ h2 (hal a (List.mem_of_getElem? h1)), h3⟩
  · refine keepM _ (C.tps t ht') fun q => ?_
    obtain ⟨o, ho⟩ := mem_keys q
    exact C.ext _ (List.mem_append_left _ ho) t ht' rfl
  · obtain ⟨u, h1, h2⟩ := C.loc x v h
    refine ⟨u, h1, ?_⟩
    cases h2 with
    | loc a b c => exact .loc a b c
    | @comp o a b c =>
      refine .comp (o := o) a ?_ c
      rcases List.mem_append.mp b with b | b
      · exact absurd (List.mem_map_of_mem (f := (·.1)) b) ok.loc
      · exact b
    | cell a b c d => exact .cell a b (keepM _ c (ok.cel x _ b)) d
  · obtain ⟨h1, o, v, h2, h3⟩ := C.cel x c h
    exact ⟨h1, o, v, keepM _ h2 (ok.cel x c h), h3⟩

theorem Rep.exPush {fx : Fx} {σ : St} {W : Wd} {s : Shared} (R : Rep fx σ W s) (ps : List (Addr × Obj)) (nd : (ps.map (·.1)).Nodup) (tk : Nat) {h' : Heap}
    (hs : ∀ b o, s.heap.get? b = some o → h'.get? b = some o) (hf : ∀ p ∈ ps, s.heap.objs.size ≤ p.1) (hg : ∀ p ∈ ps, h'.get? p.1 = some p.2) (hl : ∃ o, s.heap.get? fx.env.locals = some o) :
    Rep (fx.pushL ps) σ W { s with heap := h', toks := tk } ∧ ExOk fx ps := by
  refine R.elim fun e g m news G F N C => ?_
  have old : ∀ a o, s.heap.get? a = some o → a ∉ ps.map (·.1) := fun a o h q => by
    obtain ⟨o', ho⟩ := mem_keys q
    exact Nat.not_lt.mpr (hf _ ho) (Heap.lt_size h)
  have oldN : ∀ p ∈ news, p.1 ∉ ps.map (·.1) := fun p hp => old _ _ (N p hp).1
  obtain ⟨oL, _, _, hL, _⟩ := F.ns
  refine ⟨⟨rest_with e _ _, g, m, ps ++ news, G, frKeeps F hs, fun p hp => ?_, ?_⟩, nd, fun p hp => oldN p (C.exs p hp), fun x c h => ?_, ?_⟩
  · rcases List.mem_append.mp hp with hp | hp
    · refine ⟨hg p hp, fun q => old _ _ hL ?_, ?_⟩
      · have := List.mem_map_of_mem (f := (·.1)) hp
        rw [q] at this
        exact this
      · cases q : g.get? p.1 with
        | none => rfl
        | some o => exact absurd (List.mem_map_of_mem (f := (·.1)) hp) (old _ _ (F.keep _ _ q))
    · exact ⟨hs _ _ (N p hp).1, (N p hp).2⟩
  · refine ⟨?_, fun p hp => ?_, fun p hp => ?_, C.aln, C.len, fun i o h => ?_, fun t ht => List.mem_append_right _ (C.tps t ht), fun x v h => ?_, fun x c h => ?_, C.scc, C.mfx, fun p hp t ht' => ?_⟩
    · rw [List.map_append]
      refine List.nodup_append.mpr ⟨nd, C.nd, fun a ha b hb q => ?_⟩
      obtain ⟨p, hp, rfl⟩ := List.mem_map.mp hb
      exact oldN p hp (q ▸ ha)
    · rcases List.mem_append.mp hp with hp | hp
      · exact List.mem_append_left _ hp
      · exact List.mem_append_right _ (C.exs p hp)
    · rcases List.mem_append.mp hp with hp | hp
      · intro q
        obtain ⟨o, ho⟩ := C.al_lt q
        exact oldN _ ho (List.mem_map_of_mem (f := (·.1)) hp)
      · exact C.exd p hp
    · obtain ⟨a, ob, h1, h2, h3⟩ := C.obs i o h
      exact ⟨a, ob, h1, List.mem_append_right _ h2, h3⟩
    · obtain ⟨u, h1, h2⟩ := C.loc x v h
      refine ⟨u, h1, ?_⟩
      cases h2 with
      | loc a b c => exact .loc a b c
      | comp a b c => exact .comp a (List.mem_append_right _ b) c
      | cell a b c d => exact .cell a b (List.mem_append_right _ c) d
    · obtain ⟨h1, o, v, h2, h3⟩ := C.cel x c h
      exact ⟨h1, o, v, List.mem_append_right _ h2, h3⟩
    · rcases List.mem_append.mp hp with hp | hp
      · intro q
        exact oldN _ (C.tps t ht') (q ▸ List.mem_map_of_mem (f := (·.1)) hp)
      · exact C.ext p hp t ht'
  · obtain ⟨_, o, v, h2, _⟩ := C.cel x c h
    exact oldN _ h2
  · obtain ⟨o, ho⟩ := hl
    exact old _ _ ho

theorem Rep.exPop {fx : Fx} {σ : St} {W : Wd} {s : Shared} {ps : List (Addr × Obj)} (R : Rep (fx.pushL ps) σ W s) {p : Addr × Obj} (hp : p ∈ ps) : s.heap.get? p.1 = some p.2 := by
  refine R.elim fun _ g m news G F N C => ?_
  exact (N p (C.exs p (List.mem_append_left _ hp))).1

end Mine

set_option autoImplicit false
namespace Mine
open PySem PySem.W PySem.Calls PySem.Spec PyProof.Rows

inductive Fl where
  | next | brk | cont
  | ret (v : V)
inductive FlR (W : Wd) : Fl → Flow → Prop
  | next : FlR W .next .next
  | brk : FlR W .brk .brk
  | cont : FlR W .cont .cont
  | ret {v : V} {u : Value} : VR W v u → FlR W (.ret v) (.ret u)

def PF (fx : Fx) (W : Wd) (Q : Fl → St → Prop) : Flow → Shared → Prop := fun f s' => ∃ W' σ' fl, W.le W' ∧ Rep fx σ' W' s' ∧ FlR W' fl f ∧ Q fl σ'
theorem PF.elim {fx : Fx} {W : Wd} {Q : Fl → St → Prop} {u : Flow} {s : Shared} {P : Prop} (x : PF fx W Q u s) (k : ∀ W' σ' v, W.le W' → Rep fx σ' W' s → FlR W' v u → Q v σ' → P) : P := by
  obtain ⟨W', σ', v, a, b, c, d⟩ := x
  exact k W' σ' v a b c d
theorem PF.mono {fx : Fx} {W W' : Wd} {Q Q' : Fl → St → Prop} (h : W.le W') (hq : ∀ v σ, Q v σ → Q' v σ) {u : Flow} {s : Shared} : PF fx W' Q u s → PF fx W Q' u s := by
  rintro ⟨W₁, σ, v, a, b, c, d⟩
  exact ⟨W₁, σ, v, h.trans a, b, c, hq _ _ d⟩

def EvS (fx : Fx) (X : XP) (st : Stmt) (σ : St) (Q : Fl → St → Prop) : Prop := ∀ W s, Rep fx σ W s → wpAny fx.M fx.A (exec st fx.env) (PF fx W Q) (PX fx W X) s
def EvSs (fx : Fx) (X : XP) (ss : List Stmt) (σ : St) (Q : Fl → St → Prop) : Prop := ∀ W s, Rep fx σ W s → wpAny fx.M fx.A (execs ss fx.env) (PF fx W Q) (PX fx W X) s

/-- what holds of a frame -/
structure FxAll (fx : Fx) : Prop where
  ok : FxOk fx
  locs : fx.env.locals = fx.L ∨ ∃ o, (fx.env.locals, o) ∈ fx.ex
  cex : fx.env.locals = fx.L → ∀ x c, fx.env.cells.lookup x = some c → ∀ p ∈ fx.ex, p.1 ≠ c
  cinj : ∀ x y c, fx.env.cells.lookup x = some c → fx.env.cells.lookup y = some c → x = y
  cdef : ∀ x, fx.env.kindOf x = some .cell → fx.env.cells.lookup x ≠ none
  scr : ∃ xs n o, fx.base.get? fx.sc = some o ∧ o.cls = .type "list" ∧ o.data = .seq (List.toArray xs) n ∧ IntsAre xs fx.ns ∧ fx.ns.length < 2 ^ 62
  egl : fx.env.globals = mainGlobals
  ebu : fx.env.builtins = builtinsNs
  top : Top fx.pg.p fx.pg.loose fx.pg.mean fx.pg.mg fx.pg.mb fx.base
  part : fx.pg.K.In fx.base
  below : Below fx.A₀ fx.base fx.outer fx.h₀
  dicts : KtsDicts (fx.outer.filterMap (·.frame)) fx.h₀
  frs : fx.A.frames = some (fx.fenv :: fx.outer)
  ffr : fx.fenv.frame = some fx.L
  fkd : fx.fenv.scope.kind = .function
  depth : fx.A.depth + fx.lev < recursionLimit
  room : fx.A.units + 8 * fx.lev + 100 < cLine
  mfn : fx.env.locals = fx.L → fx.mfix = none
  envf : fx.env.locals = fx.L → fx.env = fx.fenv

theorem FxAll.units {fx : Fx} (a : FxAll fx) : fx.A.units + 100 < cLine := by have := a.room; omega

theorem FxAll.ground {fx : Fx} (a : FxAll fx) {g : Heap} (G : KtsTurn (fx.outer.filterMap (·.frame)) fx.h₀ g) : Below fx.A₀ fx.base fx.outer g ∧ KtsDicts (fx.outer.filterMap (·.frame)) g := by
  have K := a.below
  refine ⟨⟨K.stack, fun b o e => G.other b o (K.stays b o e) (fun hm => ?_), K.frames.of_keeps fun b o e _ => ?_⟩, a.dicts.turn G⟩
  · rw [(K.frames.mem hm).1] at e
    cases e
  · obtain ⟨sl, hs⟩ := G.up e
    exact ⟨_, hs, rfl⟩
theorem FxAll.stays {fx : Fx} (a : FxAll fx) {σ : St} {W : Wd} {s : Shared} (R : Rep fx σ W s) : ∀ b o, fx.base.get? b = some o → s.heap.get? b = some o := by
  refine R.elim fun _ g m news G F N C => ?_
  exact fun b o e => F.keep b o ((a.ground G).1.stays b o e)

theorem FxAll.glbAt {fx : Fx} (a : FxAll fx) {A : Around} (x : Str) (v : Value) (pos : Pos) (h : fx.pg.gl x = some v) (hk : fx.env.kindOf x = some .globalImplicit) (s : Shared) (Q : Value → Shared → Prop) (E : Value → Shared → Prop) (st : ∀ b o, fx.base.get? b = some o → s.heap.get? b = some o) (q : Q v s)
    (hd : (x == ("__debug__" : Str)) = false) : wpAny fx.M A (eval (.Name x pos) fx.env) Q E s := by
  unfold Pg.gl at h
  split at h
  · rename_i v' e
    cases h
    exact Name_function_global a.ok.kind hk (loadGlobal_global (by rw [a.egl]; exact a.top.g.keeps st) (mg_of a.part a.top.g e) q) hd
  · rename_i e
    split at h
    · cases h
    · rename_i hn
      exact Name_function_global a.ok.kind hk (loadGlobal_builtin (by rw [a.egl]; exact a.top.g.keeps st) (mg_none_of a.part a.top.g e) (by rw [a.ebu]; exact a.top.b.keeps st) ((a.top.builtins x hn).trans h) q) hd
  · cases h
theorem FxAll.glb {fx : Fx} (a : FxAll fx) (x : Str) (v : Value) (pos : Pos) (h : fx.pg.gl x = some v) (hk : fx.env.kindOf x = some .globalImplicit) (σ : St) (W : Wd) (s : Shared) (Q : Value → Shared → Prop) (E : Value → Shared → Prop) (R : Rep fx σ W s) (q : Q v s)
    (hd : (x == ("__debug__" : Str)) = false) : wpAny fx.M fx.A (eval (.Name x pos) fx.env) Q E s := a.glbAt x v pos h hk s Q E (a.stays R) q hd

theorem Core.unpush {fx : Fx} {σ : St} {W : Wd} {m : Str → Option Value} {news ps : List (Addr × Obj)} (C : Core (fx.pushL ps) σ W m news) (hl : fx.env.locals ∉ ps.map (·.1)) : Core fx σ W m news := by
  refine ⟨C.nd, fun p hp => C.exs p (List.mem_append_right _ hp), fun p hp => C.exd p (List.mem_append_right _ hp), C.aln, C.len, C.obs, C.tps, fun x v h => ?_, C.cel, C.scc, C.mfx, fun p hp t ht => C.ext p (List.mem_append_right _ hp) t ht⟩
  obtain ⟨u, h1, h2⟩ := C.loc x v h
  refine ⟨u, h1, ?_⟩
  cases h2 with
  | loc a b c => exact .loc a b c
  | comp a b c =>
    refine .comp a ?_ c
    rcases List.mem_append.mp b with b | b
    · exact absurd (List.mem_map_of_mem (f := (·.1)) b) hl
    · exact b
  | cell a b c d => exact .cell a b c d
theorem PX.pushL {fx : Fx} {ps : List (Addr × Obj)} (hl : fx.env.locals ∉ ps.map (·.1)) {W : Wd} {X : XP} {u : Value} {s : Shared} : PX (fx.pushL ps) W X u s → PX fx W X u s := by
  rintro ⟨e, cls, k, W', σ', a, b, ⟨r, g, m, news, B, c, f⟩, d⟩
  exact ⟨e, cls, k, W', σ', a, b, ⟨r, g, m, news, B, ⟨c.turn, c.dic, c.size, c.ns, c.gB, c.fr, c.nw, c.core.unpush hl, c.base⟩, f⟩, d⟩
/-- what stands between a frame's exceptional end and its loops' -/
theorem PX.noted {fx : Fx} (ok : FxAll fx) (hL : fx.env.locals = fx.L) {W : Wd} {X : XP} {u : Value} {s : Shared} : PX fx W X u s → notedBy fx.M fx.A fx.env (cameBackBy fx.M fx.A fx.env (PX fx W X)) u s := by
  rintro ⟨e, cls, k, W', σ', rfl, b, x, d⟩
  rw [ok.envf hL]
  exact x.noted ok.frs ok.ffr fun h' x' => ⟨e, cls, _, W', σ', rfl, b, x', d⟩

theorem XRep.stays {fx : Fx} {σ : St} {W : Wd} {e : Addr} {cls : Value} {k : Kd} {s : Shared} (x : XRep fx σ W e cls k s) : ∀ b o, fx.base.get? b = some o → s.heap.get? b = some o := by
  obtain ⟨r, g, m, news, B, c, f⟩ := x
  exact fun b o q => f.stays.1 b o (c.base b o q)
theorem XRep.raise {fx : Fx} (ok : FxAll fx) {σ : St} {W : Wd} {s : Shared} (R : Rep fx σ W s) {h' : Heap} {e : Addr} {cls : Value} {vs : List Value} (hx : Heap.MadeExcOf s.heap h' e cls vs) : XRep fx σ W e cls .made { s with heap := h' } := by
  refine R.elim fun r g m news G F N C => ?_
  obtain ⟨BL, D⟩ := ok.ground G
  have K' := pushX BL F ok.ffr ok.fkd
  have hin : ∀ env ∈ (fx.fenv :: fx.outer), ∀ b, env.frame = some b → b ∈ (fx.fenv :: fx.outer).filterMap (·.frame) := fun env he b hb => List.mem_filterMap.mpr ⟨env, he, hb⟩
  obtain ⟨t, ht, _, _⟩ := hx.there
  refine ⟨rest_heap r _, g, m, news, hideAll s.heap ((fx.fenv :: fx.outer).filterMap (·.frame)), ⟨G, D, F.above, F.ns.keeps hx.keeps, fun b o e nm => hideAll_get _ (F.keep b o e) nm, fun b o e => ⟨o.slots, hx.keeps _ _ (F.keep b o e)⟩, fun p hp => ⟨hideAll_get _ (N p hp).1 ?_, (N p hp).2⟩, C, ?_⟩,
    .made (fun b o e => hx.keeps b o (of_hideAll _ e)) ?_ ((funFrames_hide K'.frames hin).of_keeps fun b o e _ => ⟨o, hx.keeps b o e, rfl⟩) ht rfl rfl rfl rfl⟩
  · intro hm
    rcases mem_frames ok.ffr hm with z | z
    · exact (N p hp).2.1 z
    · obtain ⟨o, es, n, h1, _⟩ := D _ z
      rw [(N p hp).2.2] at h1
      cases h1
  · exact fun b o q => hideAll_get _ (K'.stays b o q) fun hm => by rw [(K'.frames.mem hm).1] at q; cases q
  · cases q : (hideAll s.heap ((fx.fenv :: fx.outer).filterMap (·.frame))).get? e with
    | none => rfl
    | some o => have := of_hideAll _ q; rw [hx.new] at this; cases this
theorem XRep.catch {fx : Fx} (ok : FxAll fx) {σ : St} {W : Wd} {s : Shared} {e : Addr} {cls : Value} (x : XRep fx σ W e cls .fly s) :
    Rep fx σ W s ∧ ∀ C, cls = .ref C → Rep fx ⟨σ.loc, σ.hp ++ [.exn C]⟩ ⟨W.al ++ [e], W.tp, W.sc⟩ s ∧ VR ⟨W.al ++ [e], W.tp, W.sc⟩ (.ref σ.hp.length) (.ref e) := by
  obtain ⟨r, g, m, news, B, c, f⟩ := x
  have st := f.stays
  obtain ⟨oe, vs, he, hc, hd⟩ := f.there
  obtain ⟨T, S⟩ := kts_turn_at (h := s.heap) (fs := fx.outer.filterMap (·.frame)) (g := g) (fun b hb => let ⟨o, es, n, h1, _⟩ := c.dic b hb; ⟨o, h1⟩)
    (fun b o e nm => st.1 b o (c.gB b o e (fun hm => by
      rcases mem_frames ok.ffr hm with z | z
      · rw [z, ground_self c.size] at e; cases e
      · exact nm z))) (fun b o e _ => c.fr b o e)
  have F : Fr (ktsHeap s.heap (fx.outer.filterMap (·.frame)) g) fx.L s.heap m := ⟨c.ns, S, by rw [T.size]; exact c.size⟩
  have N : News (ktsHeap s.heap (fx.outer.filterMap (·.frame)) g) fx.L s.heap news := fun p hp => ⟨st.1 _ _ (c.nw p hp).1, (c.nw p hp).2.1, T.none_ _ (c.nw p hp).2.2⟩
  refine ⟨⟨r, _, m, news, c.turn.trans T, F, N, c.core⟩, fun C hC => ⟨⟨r, _, m, (e, oe) :: news, c.turn.trans T, F, fun p hp => ?_, c.core.add (fun p hp q => ?_) fun W' _ => .exn (hc.trans hC) hd⟩, .ref (by rw [← c.core.len]; simp)⟩⟩
  · rcases List.mem_cons.mp hp with rfl | hp
    · refine ⟨he, fun q => ?_, T.none_ _ ?_⟩
      · obtain ⟨oL, es, ep, h1, h2, _⟩ := c.ns
        dsimp only at q
        rw [← q, he] at h1
        cases h1
        rw [hd] at h2
        cases h2
      · dsimp only
        cases q : g.get? e with
        | none => rfl
        | some o =>
          by_cases z : e ∈ (fx.fenv :: fx.outer).filterMap (·.frame)
          · rcases mem_frames ok.ffr z with y | y
            · rw [y, ground_self c.size] at q; cases q
            · obtain ⟨o', es, n, e1, e2⟩ := c.dic e y
              rw [q] at e1
              cases e1
              obtain ⟨sl, e3⟩ := c.fr e o q
              rw [he] at e3
              cases e3
              rw [show ({ o with slots := sl } : Obj).data = o.data from rfl, e2] at hd
              cases hd
          · have := c.gB e o q z
            rw [st.2] at this
            cases this
    · exact N p hp
  · have := (c.nw p hp).1
    rw [q, st.2] at this
    cases this

theorem Rep.unpush {fx : Fx} {σ : St} {W : Wd} {s : Shared} {ps : List (Addr × Obj)} (R : Rep (fx.pushL ps) σ W s) (hl : fx.env.locals ∉ ps.map (·.1)) : Rep fx σ W s := by
  refine R.elim fun e g m news G F N C => ?_
  refine ⟨e, g, m, news, G, F, N, C.nd, fun p hp => C.exs p (List.mem_append_right _ hp), fun p hp => C.exd p (List.mem_append_right _ hp), C.aln, C.len, C.obs, C.tps, fun x v h => ?_, C.cel, C.scc, C.mfx, fun p hp t ht => C.ext p (List.mem_append_right _ hp) t ht⟩
  obtain ⟨u, h1, h2⟩ := C.loc x v h
  refine ⟨u, h1, ?_⟩
  cases h2 with
  | loc a b c => exact .loc a b c
  | comp a b c =>
    refine .comp a ?_ c
    rcases List.mem_append.mp b with b | b
    · exact absurd (List.mem_map_of_mem (f := (·.1)) b) hl
    · exact b
  | cell a b c d => exact .cell a b c d

theorem FxAll.pushL {fx : Fx} (a : FxAll fx) {ps : List (Addr × Obj)} (ok : ExOk fx ps) : FxAll (fx.pushL ps) where
  ok := ⟨a.ok.kind, a.ok.handled⟩
  locs := a.locs.imp id fun ⟨o, h⟩ => ⟨o, List.mem_append_right _ h⟩
  cex := fun hL x c h p hp => by
    rcases List.mem_append.mp hp with hp | hp
    · exact fun q => ok.cel x c h (q ▸ List.mem_map_of_mem (f := (·.1)) hp)
    · exact a.cex hL x c h p hp
  cinj := a.cinj
  cdef := a.cdef
  scr := a.scr
  egl := a.egl
  ebu := a.ebu
  top := a.top
  part := a.part
  below := a.below
  dicts := a.dicts
  frs := a.frs
  ffr := a.ffr
  fkd := a.fkd
  depth := a.depth
  room := a.room
  mfn := a.mfn
  envf := a.envf

theorem Rep.locals_at {fx : Fx} (a : FxAll fx) {σ : St} {W : Wd} {s : Shared} (R : Rep fx σ W s) : ∃ o, s.heap.get? fx.env.locals = some o := by
  refine R.elim fun _ g m news G F N C => ?_
  rcases a.locs with h | ⟨o, h⟩
  · obtain ⟨oL, _, _, hL, _⟩ := F.ns
    exact ⟨oL, h ▸ hL⟩
  · exact ⟨o, (N _ (C.exs _ h)).1⟩

section
variable {fx : Fx} {X : XP} {σ : St}

theorem EvS.mono {st : Stmt} {Q Q' : Fl → St → Prop} (h : EvS fx X st σ Q) (hq : ∀ v σ', Q v σ' → Q' v σ') : EvS fx X st σ Q' :=
  fun W s R => wpAny_mono (h W s R) (fun _ _ x => x.mono (.refl _) hq) fun _ _ x => x
theorem EvSs.mono {ss : List Stmt} {Q Q' : Fl → St → Prop} (h : EvSs fx X ss σ Q) (hq : ∀ v σ', Q v σ' → Q' v σ') : EvSs fx X ss σ Q' :=
  fun W s R => wpAny_mono (h W s R) (fun _ _ x => x.mono (.refl _) hq) fun _ _ x => x

theorem evSs_nil {Q : Fl → St → Prop} (h : Q .next σ) : EvSs fx X [] σ Q := fun W _ R => wpAny_execs_nil ⟨W, σ, .next, .refl _, R, .next, h⟩
theorem evSs_cons {st : Stmt} {rest : List Stmt} {Q : Fl → St → Prop} (h : EvS fx X st σ (fun fl σ₁ => match fl with | .next => EvSs fx X rest σ₁ Q | f => Q f σ₁)) : EvSs fx X (st :: rest) σ Q := by
  intro W s R
  refine wpAny_execs_cons (wpAny_mono (h W s R) ?_ fun _ _ x => x)
  refine fun f s₁ zz => zz.elim fun W₁ σ₁ fl le₁ R₁ r₁ h₁ => ?_
  cases r₁ with
  | next => exact wpAny_mono (h₁ W₁ s₁ R₁) (fun _ _ x => x.mono le₁ fun _ _ y => y) fun _ _ x => x.mono le₁ fun _ _ y => y
  | brk => exact ⟨W₁, σ₁, .brk, le₁, R₁, .brk, h₁⟩
  | cont => exact ⟨W₁, σ₁, .cont, le₁, R₁, .cont, h₁⟩
  | ret r => exact ⟨W₁, σ₁, .ret _, le₁, R₁, .ret r, h₁⟩

theorem evReturn {e : Expr} {pos : Pos} {Q : Fl → St → Prop} (h : EvE fx X e σ (fun v σ₁ => Q (.ret v) σ₁)) : EvS fx X (.Return (some e) pos) σ Q := by
  intro W s R
  refine wpAny_Return_some (wpAny_mono (h W s R) ?_ fun _ _ x => x)
  refine fun u s₁ zz => zz.elim fun W₁ σ₁ v le₁ R₁ r₁ h₁ => ?_
  exact ⟨W₁, σ₁, .ret v, le₁, R₁, .ret r₁, h₁⟩
theorem evIf {t : Expr} {b o : List Stmt} {pos : Pos} {Q : Fl → St → Prop} (h : EvB fx X t σ (fun c σ₁ => if c then EvSs fx X b σ₁ Q else EvSs fx X o σ₁ Q)) : EvS fx X (.If t b o pos) σ Q := by
  intro W s R
  refine wpAny_If (wpAny_mono (h W s R) ?_ fun _ _ x => x)
  refine fun c s₁ zz => zz.elim fun W₁ σ₁ le₁ R₁ h₁ => ?_
  cases c with
  | true => exact wpAny_mono (h₁ W₁ s₁ R₁) (fun _ _ x => x.mono le₁ fun _ _ y => y) fun _ _ x => x.mono le₁ fun _ _ y => y
  | false => exact wpAny_mono (h₁ W₁ s₁ R₁) (fun _ _ x => x.mono le₁ fun _ _ y => y) fun _ _ x => x.mono le₁ fun _ _ y => y

def notComp : Expr → Bool
  | .ListComp .. | .SetComp .. | .DictComp .. => false
  | _ => true
theorem swaps_false {e : Expr} (h : notComp e = true) (t : Option Expr) (n : Nat) (env : Env) : swapsWith e t n env = pure false := by
  cases e <;> first | rfl | cases h

theorem evExpr (ok : FxOk fx) {e : Expr} {pos : Pos} {Q : Fl → St → Prop} (h : EvE fx X e σ (fun _ σ₁ => Q .next σ₁)) (hc : notComp e = true) : EvS fx X (.Expr e pos) σ Q := by
  intro W s R
  refine wpAny_Expr_any (wpAny_mono (h W s R) ?_ fun _ _ x => x) (by simp [interactive, ok.kind]) (swaps_false hc _ _ _)
  refine fun u s₁ zz => zz.elim fun W₁ σ₁ v le₁ R₁ r₁ h₁ => ?_
  exact ⟨W₁, σ₁, .next, le₁, R₁, .next, h₁⟩

def isVar (fx : Fx) (x : Str) : Prop := fx.env.locals = fx.L ∧ (fx.env.kindOf x = some .local ∨ fx.env.kindOf x = some .cell)

theorem storeVar (ok : FxAll fx) {x : Str} (hx : isVar fx x) {W : Wd} {s : Shared} {v : V} {u : Value} (R : Rep fx σ W s) (r : VR W v u) {Q : Unit → Shared → Prop} {E : Value → Shared → Prop}
    (k : ∀ h' tk, Rep fx (σ.set x v) W { s with heap := h', toks := tk } → Q () { s with heap := h', toks := tk }) : wpAny fx.M fx.A (storeName fx.env x u) Q E s := by
  obtain ⟨hL, hk | hk⟩ := hx
  · obtain ⟨_, g, m, news, G, F, N, C⟩ := id R
    refine wpAny_storeName_local hk (by rw [hL]; exact F.ns) (fun h' hn hs => k _ _ (R.setLoc r hk hL (ok.mfn hL) _ (by simp) ?_ (hL ▸ hn) (hL ▸ hs))) (by rw [ok.ok.kind]; rfl)
    intro y hy m' hm'
    simp only [hy, if_false]
    obtain ⟨o, es, ep, a1, a2, _, a4⟩ := F.ns
    obtain ⟨o', es', ep', b1, b2, _, b4⟩ := hm'
    rw [a1] at b1; cases b1
    rw [a2] at b2; cases b2
    rw [← a4, ← b4]
  · obtain ⟨e, g, m, news, G, F, N, C⟩ := id R
    cases hc : fx.env.cells.lookup x with
    | none => exact absurd hc (ok.cdef x hk)
    | some c =>
      obtain ⟨h1, o, v₀, h2, h3⟩ := C.cel x c hc
      refine wpAny_storeName_cell ok.ok.kind hk hc ⟨o, N.get h2, h3⟩ fun h' hv hs => ?_
      obtain ⟨o', ho', hd'⟩ := hv
      obtain ⟨F', N'⟩ := fr_upd F N h2 hs.extBut ho'
      refine k h' s.toks ⟨rest_with e _ _, g, m, setL c o' news, G, F', N', ?_⟩
      have other : ∀ p ∈ news, p.1 ≠ c → p ∈ setL c o' news := fun p hp q => setL_ne hp q
      refine ⟨by rw [setL_keys]; exact C.nd, fun p hp => other p (C.exs p hp) (ok.cex hL x c hc p hp), C.exd, C.aln, C.len, fun i o₁ h => ?_, fun t ht => other _ (C.tps t ht) fun q => ?_, fun y w h => ?_, fun y c' h => ?_, C.scc, C.mfx, C.ext⟩
      · obtain ⟨a, ob, k1, k2, k3⟩ := C.obs i o₁ h
        exact ⟨a, ob, k1, other _ k2 fun q => h1 (q ▸ List.mem_of_getElem? k1), k3⟩
      · dsimp only at q
        have := C.tps t ht
        rw [q] at this
        rw [← key_inj C.nd this h2] at h3
        cases h3
      · by_cases q : y = x
        · subst q
          simp [St.set, setN] at h
          subst h
          exact ⟨u, r, .cell (.inl hk) hc (setL_self h2) hd'⟩
        · simp [St.set, setN, q] at h
          obtain ⟨u', k1, k2⟩ := C.loc y w h
          refine ⟨u', k1, ?_⟩
          cases k2 with
          | loc a b d => exact .loc a b d
          | comp a b d => exact .comp a b d
          | cell a b d f => exact .cell a b (other _ d fun z => q (ok.cinj y x c (by rw [b]; exact congrArg some z) hc)) f
      · obtain ⟨k1, o₁, w, k2, k3⟩ := C.cel y c' h
        by_cases q : c' = c
        · subst q
          exact ⟨k1, o', _, setL_self h2, hd'⟩
        · exact ⟨k1, o₁, w, other _ k2 q, k3⟩

theorem evAssignName (ok : FxAll fx) {x : Str} {p pos : Pos} {e : Expr} {Q : Fl → St → Prop} (hx : isVar fx x) (h : EvE fx X e σ (fun v σ₁ => Q .next (σ₁.set x v))) (hc : notComp e = true) : EvS fx X (.Assign [.Name x p] e pos) σ Q := by
  intro W s R
  refine wpAny_Assign_Name (wpAny_mono (h W s R) ?_ fun _ _ x => x) (swaps_false hc _ _ _)
  refine fun u s₁ zz => zz.elim fun W₁ σ₁ v le₁ R₁ r₁ h₁ => ?_
  exact storeVar ok hx R₁ r₁ fun _ _ R₂ => ⟨W₁, _, .next, le₁, R₂, .next, h₁⟩

theorem evWhile (ok : FxAll fx) (hL : fx.env.locals = fx.L) {t : Expr} {b : List Stmt} {pos : Pos} {Q : Fl → St → Prop} (J : Nat → St → Prop) (m : Nat) (h0 : J m σ)
    (turn : ∀ m σ', J m σ' → EvB fx X t σ' (fun c σ₁ => if c then EvSs fx X b σ₁ (fun fl σ₂ => match fl with | .next | .cont => ∃ m', m' < m ∧ J m' σ₂ | .brk => Q .next σ₂ | .ret v => Q (.ret v) σ₂) else Q .next σ₁)) :
    EvS fx X (.While t b [] pos) σ Q := by
  intro W s R
  refine wpAny_While (codeAny_whileLoop (fun n s' => ∃ W' σ', W.le W' ∧ Rep fx σ' W' s' ∧ J n σ') ?_ m ⟨W, σ, .refl _, R, h0⟩)
  rintro n s' ⟨W', σ', le', R', hJ⟩
  refine wpAny_mono (turn n σ' hJ W' s' R') ?_ fun _ _ x => ((x.mono le' fun _ _ y => y).noted ok hL)
  refine fun c s₁ zz => zz.elim fun W₁ σ₁ le₁ R₁ h₁ => ?_
  cases c with
  | true =>
    refine wpAny_mono (h₁ W₁ s₁ R₁) ?_ fun _ _ x => (x.mono (le'.trans le₁) fun _ _ y => y).noted ok hL
    refine fun f s₂ zz => zz.elim fun W₂ σ₂ fl le₂ R₂ r₂ h₂ => ?_
    cases r₂ with
    | next => exact h₂.elim fun k hk => ⟨k, hk.1, W₂, σ₂, (le'.trans le₁).trans le₂, R₂, hk.2⟩
    | cont => exact h₂.elim fun k hk => ⟨k, hk.1, W₂, σ₂, (le'.trans le₁).trans le₂, R₂, hk.2⟩
    | brk => exact ⟨W₂, σ₂, .next, (le'.trans le₁).trans le₂, R₂, .next, h₂⟩
    | ret r => exact ⟨W₂, σ₂, .ret _, (le'.trans le₁).trans le₂, R₂, .ret r, h₂⟩
  | false => exact wpAny_execs_nil ⟨W₁, σ₁, .next, le'.trans le₁, R₁, .next, h₁⟩

/-- what an iterator yields -/
structure Src (fx : Fx) (W₀ : Wd) (its : List V) (need : St → Prop) (Io : Addr) (st : Nat → List (Addr × Obj) → Prop) : Prop where
  tup : ∀ k ps, st k ps → ∀ p ∈ ps, ∀ xs, p.2 ≠ tupObj xs
  own : ∀ qs (k : Nat) ps (σ : St) W s (t : Expr) (u : Value), st k ps → Rep ((fx.pushL qs).pushL ps) σ W s → ∀ (Q : Unit → Shared → Prop) (E : Value → Shared → Prop), Q () s → wpAny fx.M fx.A (letOwnedTupleGo t (.ref Io) u) Q E s
  self : ∀ qs (k : Nat) ps (σ : St) W s, st k ps → Rep ((fx.pushL qs).pushL ps) σ W s → ∀ (Q : Value → Shared → Prop) (E : Value → Shared → Prop), Q (.ref Io) s → wpAny fx.M fx.A (pyIter (.ref Io)) Q E s
  next : ∀ qs (k : Nat) ps (σ : St) W s (hk : k < its.length), W₀.le W → st k ps → ExOk (fx.pushL qs) ps → Rep ((fx.pushL qs).pushL ps) σ W s → need σ → ∀ (Q : Option Value → Shared → Prop) (E : Value → Shared → Prop),
    (∀ u ps' W' h' tk', st (k + 1) ps' → ps'.map (·.1) = ps.map (·.1) → W.le W' → VR W' its[k] u → Rep ((fx.pushL qs).pushL ps') σ W' { s with heap := h', toks := tk' } → Q (some u) { s with heap := h', toks := tk' }) →
    wpAny fx.M fx.A (pyNext (.ref Io)) Q E s
  done : ∀ qs ps (σ : St) W s, W₀.le W → st its.length ps → ExOk (fx.pushL qs) ps → Rep ((fx.pushL qs).pushL ps) σ W s → need σ → ∀ (Q : Option Value → Shared → Prop) (E : Value → Shared → Prop),
    (∀ h' tk', Rep (fx.pushL qs) σ W { s with heap := h', toks := tk' } → Q none { s with heap := h', toks := tk' }) → wpAny fx.M fx.A (pyNext (.ref Io)) Q E s

def IterT (fx : Fx) (X : XP) (iter : Expr) (σ : St) (P : List V → (St → Prop) → St → Prop) : Prop :=
  ∀ W s, Rep fx σ W s → wpAny fx.M fx.A (eval iter fx.env) (fun xv s₁ => wpAny fx.M fx.A (pyIter xv) (fun it s₂ => ∃ Io st ps W' σ' its need, it = .ref Io ∧ W.le W' ∧ Src fx W' its need Io st ∧ st 0 ps ∧ ExOk fx ps ∧
    Rep (fx.pushL ps) σ' W' s₂ ∧ P its need σ') (PX fx W X) s₁) (PX fx W X) s
theorem IterT.mono {iter : Expr} {P P' : List V → (St → Prop) → St → Prop} (h : IterT fx X iter σ P) (hp : ∀ its need σ', P its need σ' → P' its need σ') : IterT fx X iter σ P' := by
  refine fun W s R => wpAny_mono (h W s R) (fun _ _ x => wpAny_mono x ?_ fun _ _ e => e) fun _ _ e => e
  rintro _ _ ⟨Io, st, ps, W', σ', its, need, a, b, c, d, e, f, g⟩
  exact ⟨Io, st, ps, W', σ', its, need, a, b, c, d, e, f, hp _ _ _ g⟩

def AsgT (fx : Fx) (X : XP) (t : Expr) (v : V) (σ : St) (Q : St → Prop) : Prop :=
  ∀ W s u, Rep fx σ W s → VR W v u → wpAny fx.M fx.A (assign t fx.env u) (PU fx W Q) (PX fx W X) s
theorem asgName (ok : FxAll fx) {x : Str} {p : Pos} {v : V} {Q : St → Prop} (hx : isVar fx x) (h : Q (σ.set x v)) : AsgT fx X (.Name x p) v σ Q := fun W _ _ R r =>
  wpAny_bind (wpAny_standAt (wpAny_bindName (storeVar ok hx R r fun _ _ R₂ => ⟨W, _, .refl _, R₂, h⟩)))

theorem evFor (ok : FxAll fx) (hL : fx.env.locals = fx.L) {t iter : Expr} {b : List Stmt} {pos : Pos} {Q : Fl → St → Prop}
    (h : IterT fx X iter σ (fun its need σ₁ => ∃ J : Nat → St → Prop, J 0 σ₁ ∧ (∀ k σ', J k σ' → need σ') ∧
      (∀ (k : Nat) σ' (hk : k < its.length), J k σ' → ∀ ps, FxAll (fx.pushL ps) → AsgT (fx.pushL ps) X t its[k] σ' (fun σ₁ => EvSs (fx.pushL ps) X b σ₁ (fun fl σ₂ => match fl with | .next | .cont => J (k + 1) σ₂ | .brk => Q .next σ₂ | .ret v => Q (.ret v) σ₂))) ∧
      ∀ σ', J its.length σ' → Q .next σ'))
    (hs : ∀ x, foldedSetIterable iter fx.env x = pure x) : EvS fx X (.For t iter b [] pos) σ Q := by
  intro W s R
  refine wpAny_For (wpAny_mono (h W s R) (fun xv s₁ h₁ => wpAny_mono h₁ (fun it s₂ h₂ => ?_) fun _ _ e => e) fun _ _ e => e) hs
  obtain ⟨Io, st, ps, W₀, σ₀, its, need, rfl, le₀, S, hst, hex, R₀, J, h0, hn, turn, fin⟩ := h₂
  have drop : ∀ ps' (σ' : St) W' s', ExOk fx ps' → Rep (fx.pushL ps') σ' W' s' → Rep fx σ' W' s' := fun ps' σ' W' s' o r => r.unpush o.loc
  refine codeAny_forLoop_any (fun n s' => ∃ k ps' W' σ', n = its.length - k ∧ k ≤ its.length ∧ W₀.le W' ∧ st k ps' ∧ ExOk fx ps' ∧ Rep (fx.pushL ps') σ' W' s' ∧ J k σ') ?_ its.length ⟨0, ps, W₀, σ₀, rfl, Nat.zero_le _, .refl _, hst, hex, R₀, h0⟩
  rintro n s' ⟨k, ps', W', σ', rfl, hk, le₁', hst', hex', R', hJ⟩
  have le' := le₀.trans le₁'
  rcases Nat.lt_or_ge k its.length with hlt | hge
  · refine S.next [] k ps' σ' W' s' hlt le₁' hst' hex' R' (hn k σ' hJ) _ _ fun u ps'' W'' h'' tk'' hst'' hkey le'' r'' R'' => ?_
    have hex'' : ExOk fx ps'' := ⟨hkey ▸ hex'.nd, hkey ▸ hex'.dis, hkey ▸ hex'.cel, hkey ▸ hex'.loc⟩
    refine S.own [] (k + 1) ps'' σ' W'' _ t u hst'' R'' _ _ ?_
    refine wpAny_mono (turn k σ' hlt hJ ps'' (ok.pushL hex'') W'' _ u R'' r'') ?_ fun _ _ x => ((x.pushL hex''.loc).mono (le'.trans le'') fun _ _ y => y).noted ok hL
    refine fun _ s₃ zz => zz.elim fun W₃ σ₃ le₃ R₃ h₃ => ?_
    refine wpAny_mono (h₃ W₃ s₃ R₃) ?_ fun _ _ x => ((x.pushL hex''.loc).mono ((le'.trans le'').trans le₃) fun _ _ y => y).noted ok hL
    refine fun f s₄ zz => zz.elim fun W₄ σ₄ fl le₄ R₄ r₄ h₄ => ?_
    have LE := ((le'.trans le'').trans le₃).trans le₄
    have LE₁ := ((le₁'.trans le'').trans le₃).trans le₄
    cases r₄ with
    | next => exact ⟨its.length - (k + 1), by omega, k + 1, ps'', W₄, σ₄, rfl, hlt, LE₁, hst'', hex'', R₄, h₄⟩
    | cont => exact ⟨its.length - (k + 1), by omega, k + 1, ps'', W₄, σ₄, rfl, hlt, LE₁, hst'', hex'', R₄, h₄⟩
    | brk => exact ⟨W₄, σ₄, .next, LE, drop _ _ _ _ hex'' R₄, .next, h₄⟩
    | ret r => exact ⟨W₄, σ₄, .ret _, LE, drop _ _ _ _ hex'' R₄, .ret r, h₄⟩
  · obtain rfl : k = its.length := Nat.le_antisymm hk hge
    exact S.done [] ps' σ' W' s' le₁' hst' hex' R' (hn _ σ' hJ) _ _ fun h'' tk'' R'' => wpAny_execs_nil ⟨W', σ', .next, le', R'', .next, fin σ' hJ⟩
end
end Mine

set_option autoImplicit false
namespace Mine
open PySem PySem.W PySem.Calls PySem.Spec PyProof.Rows

section
variable {fx : Fx} {X : XP} {σ : St} {W : Wd} {s : Shared}

theorem Rep.list_at (R : Rep fx σ W s) {i : Nat} {vs : List V} {u : Value} (ho : σ.hp[i]? = some (.list vs)) (r : VR W (.ref i) u) : ∃ a xs n, u = .ref a ∧ W.al[i]? = some a ∧ s.heap.get? a = some (listObj xs n) ∧ VRs W vs xs := by
  refine R.elim fun _ g m news G F N C => ?_
  obtain ⟨a, ob, h1, h2, h3⟩ := C.obs i _ ho
  cases r with
  | ref e =>
    rw [h1] at e
    cases e
    cases h3 with
    | list n q => exact ⟨a, _, n, rfl, h1, (N _ h2).1, q⟩
theorem Rep.tup_at (R : Rep fx σ W s) {vs : List V} {u : Value} (r : VR W (.tup vs) u) : ∃ a xs, u = .ref a ∧ s.heap.get? a = some (tupObj xs) ∧ VRs W vs xs := by
  refine R.elim fun _ g m news G F N C => ?_
  cases r with
  | tup e q => exact ⟨_, _, rfl, (N _ (C.tps _ e)).1, q⟩
theorem listObj_isList {h : Heap} {a : Addr} {xs : List Value} {n : Nat} (e : h.get? a = some (listObj xs n)) : h.IsList a xs.toArray := ⟨_, e, rfl, n, rfl⟩
theorem tupObj_isTup {h : Heap} {a : Addr} {xs : List Value} (e : h.get? a = some (tupObj xs)) : IsTup h a xs.toArray := ⟨_, e, rfl, 0, rfl⟩

/-! data -/
mutual
inductive Dat (hp : List O) : V → PyData → Prop
  | none : Dat hp .none .none
  | bool (b : Bool) : Dat hp (.bool b) (.bool b)
  | int (n : Int) : Dat hp (.int n) (.int n)
  | str (x : Str) : Dat hp (.str x) (.str x)
  | tup {vs : List V} {ds : List PyData} : Dats hp vs ds → Dat hp (.tup vs) (.tuple ds)
  | list {i : Nat} {vs : List V} {ds : List PyData} : hp[i]? = some (.list vs) → Dats hp vs ds → Dat hp (.ref i) (.list ds)
inductive Dats (hp : List O) : List V → List PyData → Prop
  | nil : Dats hp [] []
  | cons {v : V} {vs : List V} {d : PyData} {ds : List PyData} : Dat hp v d → Dats hp vs ds → Dats hp (v :: vs) (d :: ds)
end
mutual
theorem Dat.reads (R : Rep fx σ W s) : ∀ {v : V} {d : PyData}, Dat σ.hp v d → ∀ {u : Value}, VR W v u → ∃ as, Reads s.heap u d as
  | _, _, .none => fun r => by cases r; exact ⟨_, .none⟩
  | _, _, .bool b => fun r => by cases r; exact ⟨_, .bool b⟩
  | _, _, .int n => fun r => by cases r; exact ⟨_, .int n _⟩
  | _, _, .str x => fun r => by cases r; exact ⟨_, .str x _⟩
  | _, _, .tup ds => fun r => by
    obtain ⟨a, xs, rfl, h1, h2⟩ := R.tup_at r
    obtain ⟨as, q⟩ := Dats.reads R ds h2
    exact ⟨_, .tuple h1 rfl rfl (by simpa using q)⟩
  | _, _, .list ho ds => fun r => by
    obtain ⟨a, xs, n, rfl, _, h1, h2⟩ := R.list_at ho r
    obtain ⟨as, q⟩ := Dats.reads R ds h2
    exact ⟨_, .list h1 rfl rfl (by simpa using q)⟩
theorem Dats.reads (R : Rep fx σ W s) : ∀ {vs : List V} {ds : List PyData}, Dats σ.hp vs ds → ∀ {us : List Value}, VRs W vs us → ∃ as, ReadsAll s.heap us ds as
  | _, _, .nil => fun r => by cases r; exact ⟨_, .nil⟩
  | _, _, .cons a b => fun r => by
    cases r with
    | cons c d =>
      obtain ⟨as, h1⟩ := Dat.reads R a c
      obtain ⟨bs, h2⟩ := Dats.reads R b d
      exact ⟨_, .cons h1 h2⟩
end

theorem dats_ints (hp : List O) : ∀ ns : List Int, Dats hp (ns.map .int) (ns.map .int)
  | [] => .nil
  | n :: r => .cons (.int n) (dats_ints hp r)

/-! binary operations -/
theorem bin_addT {x y : Int} {Q : V → St → Prop} (h : Q (.int (x + y)) σ) : BinT fx X .Add (.int x) (.int y) σ Q := by
  intro W s u₁ u₂ R r₁ r₂; cases r₁; cases r₂; exact add_int (.here (R.toks _) (.int _ _) h)
theorem bin_subT {x y : Int} {Q : V → St → Prop} (h : Q (.int (x - y)) σ) : BinT fx X .Sub (.int x) (.int y) σ Q := by
  intro W s u₁ u₂ R r₁ r₂; cases r₁; cases r₂; exact sub_int (.here (R.toks _) (.int _ _) h)
theorem bin_mulT {x y : Int} {Q : V → St → Prop} (q : x.natAbs < 2 ^ 64 ∨ y.natAbs < 2 ^ 64) (h : Q (.int (x * y)) σ) : BinT fx X .Mult (.int x) (.int y) σ Q := by
  intro W s u₁ u₂ R r₁ r₂; cases r₁; cases r₂
  refine PyProof.Rows.mul_int (.here (R.toks _) (.int _ _) h) ?_
  rcases q with q | q
  · exact .of_left (intBits_le q)
  · exact .of_right (intBits_le q)
theorem bin_modT {x y : Int} {Q : V → St → Prop} (q : 0 < y) (h : Q (.int (x % y)) σ) : BinT fx X .Mod (.int x) (.int y) σ Q := by
  intro W s u₁ u₂ R r₁ r₂; cases r₁; cases r₂
  exact mod_int' (Int.ne_of_gt q) (.here (R.toks _) (.int _ _) (by rw [Int.fmod_eq_emod_of_nonneg _ (Int.le_of_lt q)]; exact h))
theorem bin_divT {x y : Int} {Q : V → St → Prop} (q : 0 < y) (q' : y < 2 ^ 30) (h : Q (.int (x / y)) σ) : BinT fx X .FloorDiv (.int x) (.int y) σ Q := by
  intro W s u₁ u₂ R r₁ r₂; cases r₁; cases r₂
  exact floordiv_int (Int.ne_of_gt q) (.here (R.toks _) (.int _ _) (by rw [Int.fdiv_eq_ediv_of_nonneg _ (Int.le_of_lt q)]; exact h)) (.inl (PyProof.noPylong_small (by omega)))
theorem bin_powT {x y : Int} {Q : V → St → Prop} (q : 0 ≤ y ∧ y ≤ 1000000 ∧ x.natAbs < 2 ^ 64) (h : Q (.int (x ^ y.toNat)) σ) : BinT fx X .Pow (.int x) (.int y) σ Q := by
  intro W s u₁ u₂ R r₁ r₂; cases r₁; cases r₂; exact pow_int_small q.1 q.2.1 q.2.2 (.here (R.toks _) (.int _ _) h)
theorem bin_listsT {i j : Nat} {vs ws : List V} {Q : V → St → Prop} (h1 : σ.hp[i]? = some (.list vs)) (h2 : σ.hp[j]? = some (.list ws)) (h3 : vs.length + ws.length ≤ sizeLine) (h4 : Q (.ref σ.hp.length) ⟨σ.loc, σ.hp ++ [.list (vs ++ ws)]⟩) : BinT fx X .Add (.ref i) (.ref j) σ Q := by
  intro W s u₁ u₂ R r₁ r₂
  obtain ⟨a, xs, n, rfl, _, k1, k2⟩ := R.list_at h1 r₁
  obtain ⟨b, ys, n', rfl, _, k3, k4⟩ := R.list_at h2 r₂
  refine R.elim fun er g m news G F N C => ?_
  refine add_lists F N (listObj_isList k1) (listObj_isList k3) (fun h' F' N' => ?_) (by rw [← k2.length, ← k4.length]; exact h3)
  obtain ⟨W', le', hD, R'⟩ := Rep.addN er G C (o := .list (vs ++ ws)) F' N' (fun p hp => Nat.ne_of_lt (Heap.lt_size (N p hp).1)) fun W' le => .list 0 ((k2.mono le).append (k4.mono le))
  exact ⟨W', _, .ref σ.hp.length, le', R', .ref hD, h4⟩

/-! comparisons -/
theorem cmp_eqT (hu : fx.A.units + 64 < cLine) {a b : V} {da db : PyData} {Q : V → St → Prop} (h1 : Dat σ.hp a da) (h2 : Dat σ.hp b db) (h3 : PySem.SeqAt.shaped da = true) (h4 : PySem.SeqAt.shaped db = true) (h5 : Q (.bool (PyData.eqv da db)) σ) : CmpT fx X .Eq a b σ Q := by
  intro W s u₁ u₂ R r₁ r₂
  obtain ⟨as, ra⟩ := h1.reads R r₁
  obtain ⟨bs, rb⟩ := h2.reads R r₂
  exact eq_dataH ra rb h3 h4 hu (.here R (.bool _) h5)
theorem cmp_neT (hu : fx.A.units + 64 < cLine) {a b : V} {da db : PyData} {Q : V → St → Prop} (h1 : Dat σ.hp a da) (h2 : Dat σ.hp b db) (h3 : PySem.SeqAt.shaped da = true) (h4 : PySem.SeqAt.shaped db = true) (h5 : Q (.bool (!PyData.eqv da db)) σ) : CmpT fx X .NotEq a b σ Q := by
  intro W s u₁ u₂ R r₁ r₂
  obtain ⟨as, ra⟩ := h1.reads R r₁
  obtain ⟨bs, rb⟩ := h2.reads R r₂
  exact ne_dataH ra rb h3 h4 hu (.here R (.bool _) h5)
/-- a value that is not None, not a truth value -/
def someV : V → Bool
  | .int _ | .str _ | .tup _ | .ref _ => true
  | _ => false
theorem someV_ne {v : V} {u : Value} (h : someV v = true) (r : VR W v u) : plainIs u .none = true ∧ (u == .none) = false ∧ ∀ b, plainIs u (.bool b) = true ∧ (u == .bool b) = false := by
  cases r <;> first | exact ⟨rfl, rfl, fun b => ⟨rfl, rfl⟩⟩ | cases h
theorem is_plainT {a b : V} {c : Bool} {Q : V → St → Prop} (e : ∀ (W : Wd) u₁ u₂, VR W a u₁ → VR W b u₂ → plainIs u₁ u₂ = true ∧ (u₁ == u₂) = c) : (Q (.bool c) σ → CmpT fx X .Is a b σ Q) ∧ (Q (.bool (!c)) σ → CmpT fx X .IsNot a b σ Q) := by
  constructor
  · intro h W s u₁ u₂ R r₁ r₂
    obtain ⟨p, q⟩ := e W u₁ u₂ r₁ r₂
    exact wpAny_is_plain p (by rw [q]; exact .here R (.bool _) h)
  · intro h W s u₁ u₂ R r₁ r₂
    obtain ⟨p, q⟩ := e W u₁ u₂ r₁ r₂
    exact wpAny_isNot_plain p (by rw [q]; exact .here R (.bool _) h)
theorem is_nn : ∀ (W : Wd) u₁ u₂, VR W .none u₁ → VR W .none u₂ → plainIs u₁ u₂ = true ∧ (u₁ == u₂) = true := fun W u₁ u₂ r₁ r₂ => by cases r₁; cases r₂; exact ⟨rfl, rfl⟩
theorem is_vn {v : V} (h : someV v = true) : ∀ (W : Wd) u₁ u₂, VR W v u₁ → VR W .none u₂ → plainIs u₁ u₂ = true ∧ (u₁ == u₂) = false := fun W u₁ u₂ r₁ r₂ => by cases r₂; exact ⟨(someV_ne h r₁).1, (someV_ne h r₁).2.1⟩
theorem cmp_ltT {x y : Int} {Q : V → St → Prop} (h : Q (.bool (decide (x < y))) σ) : CmpT fx X .Lt (.int x) (.int y) σ Q := by
  intro W s u₁ u₂ R r₁ r₂; cases r₁; cases r₂; exact lt_int (.here R (.bool _) h)
theorem cmp_gtT {x y : Int} {Q : V → St → Prop} (h : Q (.bool (decide (y < x))) σ) : CmpT fx X .Gt (.int x) (.int y) σ Q := by
  intro W s u₁ u₂ R r₁ r₂; cases r₁; cases r₂; exact gt_int (.here R (.bool _) h)
theorem cmp_leT {x y : Int} {Q : V → St → Prop} (h : Q (.bool (decide (x ≤ y))) σ) : CmpT fx X .LtE (.int x) (.int y) σ Q := by
  intro W s u₁ u₂ R r₁ r₂; cases r₁; cases r₂; exact le_int (.here R (.bool _) h)
theorem cmp_geT {x y : Int} {Q : V → St → Prop} (h : Q (.bool (decide (y ≤ x))) σ) : CmpT fx X .GtE (.int x) (.int y) σ Q := by
  intro W s u₁ u₂ R r₁ r₂; cases r₁; cases r₂; exact PyProof.Rows.ge_int (.here R (.bool _) h)

theorem tru_boolT {b : Bool} {Q : Bool → St → Prop} (h : Q b σ) : TruT fx X (.bool b) σ Q := by
  intro W s u R r; cases r; exact wpAny_truthy_bool (.here R h)
theorem un_notT {v : V} {Q : V → St → Prop} (h : TruT fx X v σ fun b σ' => Q (.bool (!b)) σ') : UnT fx X .Not v σ Q := by
  intro W s u R r
  refine not_of (wpAny_mono (h W s u R r) ?_ fun _ _ x => x)
  refine fun b s₁ zz => zz.elim fun W₁ σ₁ a b' c => ?_
  exact ⟨W₁, σ₁, _, a, b', .bool _, c⟩
theorem un_negT {n : Int} {Q : V → St → Prop} (h : Q (.int (-n)) σ) : UnT fx X .USub (.int n) σ Q := by
  intro W s u R r; cases r; exact PyProof.Rows.neg_int (.here (R.toks _) (.int _ _) h)
end
end Mine

set_option autoImplicit false
namespace Mine
open PySem PySem.W PySem.Calls PySem.Spec PyProof.Rows

/-! sources of loops -/
theorem own_go {M : Model} {A : Around} {E : Value → Shared → Prop} {s : Shared} {Io : Addr} {ob : Obj} {n : String} {vs : Array Value} (hg : s.heap.get? Io = some ob) (hc : ob.cls = .type n) (hd : ob.data = .fields vs)
    (hn : (["enumerate", "zip", "dict_itemiterator", "dict_reverseitemiterator", "odict_iterator", "itertools.zip_longest", "itertools.pairwise"] : List String).contains n = false) (t : Expr) (u : Value) {Q : Unit → Shared → Prop} (q : Q () s) :
    wpAny M A (letOwnedTupleGo t (.ref Io) u) Q E s := by
  unfold letOwnedTupleGo
  split
  · split
    · rename_i e
      cases e
      refine wpAny_bind (wpAny_load hg ?_)
      rw [hc, hd]
      dsimp only
      rw [hn]
      exact wpAny_pure q
    · exact wpAny_pure q
  · split
    · rename_i e
      cases e
      refine wpAny_bind (wpAny_load hg ?_)
      rw [hc, hd]
      dsimp only
      rw [hn]
      exact wpAny_pure q
    · exact wpAny_pure q
  · exact wpAny_pure q

section
variable {fx : Fx} {X : XP} {σ : St} {W : Wd} {s : Shared}

def listItSt (Io a : Addr) (k : Nat) (ps : List (Addr × Obj)) : Prop := ∃ ob : Obj, ps = [(Io, ob)] ∧ ob.cls = .type "list_iterator" ∧ ob.data = .fields #[.ref a, .int k 0]

theorem src_list (hh : fx.A.handled = none) {i : Nat} {its : List V} {a Io : Addr} (ha : W.al[i]? = some a) : Src fx W its (fun σ' => σ'.hp[i]? = some (.list its)) Io (listItSt Io a) where
  tup := by
    rintro k ps ⟨ob, rfl, hc, hd⟩ p hp xs e
    rw [List.mem_singleton.mp hp] at e
    rw [show ob = tupObj xs from e] at hc
    simp at hc
  own := by
    rintro qs k ps σ' W' s' t u ⟨ob, rfl, hc, hd⟩ R Q E q
    exact own_go (R.exPop (List.mem_singleton.mpr rfl)) hc hd (by decide) t u q
  self := by
    rintro qs k ps σ' W' s' ⟨ob, rfl, hc, hd⟩ R Q E q
    exact wpAny_pyIter_listiter ⟨ob, R.exPop (List.mem_singleton.mpr rfl), hc, hd⟩ q
  next := by
    rintro qs k ps σ' W' s' hk le ⟨ob, rfl, hc, hd⟩ ok R need Q E q
    have hg := R.exPop (List.mem_singleton.mpr rfl)
    obtain ⟨a', xs, n, ea, h1, h2, h3⟩ := R.list_at need (.ref (prefix_get le.1 ha))
    cases ea
    obtain ⟨x, hx, hv⟩ := h3.get (show its[k]? = some its[k] by simp [hk])
    refine wpAny_pyNext_list_item ⟨ob, hg, hc, hd⟩ (listObj_isList h2) (by simpa using hx) fun h' hit hs => ?_
    obtain ⟨ob', hg', hc', hd'⟩ := hit
    have R' := R.exSwap ok [(Io, ob')] rfl s'.toks
      (fun b o hb e => (hs.2 b (by simpa using hb)).trans e) (fun p hp => by rw [List.mem_singleton.mp hp]; exact hg')
    exact q x [(Io, ob')] W' h' s'.toks ⟨ob', rfl, hc', hd'⟩ rfl (.refl _) hv R'
  done := by
    rintro qs ps σ' W' s' le ⟨ob, rfl, hc, hd⟩ ok R need Q E q
    have hg := R.exPop (List.mem_singleton.mpr rfl)
    obtain ⟨a', xs, n, ea, h1, h2, h3⟩ := R.list_at need (.ref (prefix_get le.1 ha))
    cases ea
    refine wpAny_pyNext_list_end hh ⟨ob, hg, hc, hd⟩ (listObj_isList h2) (by simp [h3.length]) fun h' he => ?_
    exact q h' s'.toks (R.exDrop ok _ fun b o hb e => he b o (by simpa using hb) e)

def rngItems (a : Int) (n : Nat) : List V := (List.range n).map fun (j : Nat) => V.int (a + (j : Int))
theorem rngItems_length (a : Int) (n : Nat) : (rngItems a n).length = n := by simp [rngItems]
theorem rngItems_get (a : Int) (n k : Nat) (h : k < (rngItems a n).length) : (rngItems a n)[k] = .int (a + (k : Int)) := by simp [rngItems]

abbrev rngObj (x l : Int) : Obj := { cls := .type "range_iterator", dict := none, data := .fields #[rawInt x, rawInt l, rawInt 1], slots := #[] }
theorem rngObj_not (x l : Int) (xs : List Value) : rngObj x l ≠ tupObj xs := fun e => by
  have := congrArg Obj.cls e
  simp at this
def rngItSt (Io : Addr) (a : Int) (n : Nat) (k : Nat) (ps : List (Addr × Obj)) : Prop :=
  ps = [(Io, rngObj (a + (k : Int)) ((n : Int) - (k : Int)))]

theorem src_range (hh : fx.A.handled = none) {a : Int} {n : Nat} {Io : Addr} : Src fx W (rngItems a n) (fun _ => True) Io (rngItSt Io a n) where
  tup := by
    rintro k ps rfl p hp xs e
    rw [List.mem_singleton.mp hp] at e
    exact rngObj_not _ _ _ e
  own := by
    rintro qs k ps σ' W' s' t u rfl R Q E q
    exact own_go (R.exPop (List.mem_singleton.mpr rfl)) rfl rfl (by decide) t u q
  self := by
    rintro qs k ps σ' W' s' rfl R Q E q
    exact wpAny_pyIter_rangeiter (R.exPop (List.mem_singleton.mpr rfl)) q
  next := by
    rintro qs k ps σ' W' s' hk le rfl ok R need Q E q
    have hg := R.exPop (List.mem_singleton.mpr rfl)
    have hk' : k < n := by rwa [rngItems_length] at hk
    refine wpAny_pyNext_range_item (it := Io) (x := a + (k : Int)) (left := (n : Int) - (k : Int)) (step := 1) hg (by omega) fun h' hit hs => ?_
    have e1 : a + (k : Int) + 1 = a + ((k + 1 : Nat) : Int) := by push_cast; omega
    have e2 : (n : Int) - (k : Int) - 1 = (n : Int) - ((k + 1 : Nat) : Int) := by push_cast; omega
    rw [e1, e2] at hit
    have R' := R.exSwap ok [(Io, rngObj (a + ((k + 1 : Nat) : Int)) ((n : Int) - ((k + 1 : Nat) : Int)))] rfl (s'.toks + 1)
      (fun b o hb e => (hs.2 b (by simpa using hb)).trans e) (fun p hp => by rw [List.mem_singleton.mp hp]; exact hit)
    exact q _ _ W' h' (s'.toks + 1) rfl rfl (.refl _) (by rw [rngItems_get]; exact .int _ _) R'
  done := by
    rintro qs ps σ' W' s' le hst ok R need Q E q
    rw [rngItems_length] at hst
    cases hst
    have hg := R.exPop (List.mem_singleton.mpr rfl)
    refine wpAny_pyNext_range_end (it := Io) (x := a + (n : Int)) (left := (n : Int) - (n : Int)) (step := 1) hh hg (by omega) fun h' he => ?_
    exact q h' s'.toks (R.exDrop ok _ fun b o hb e => he b o (by simpa using hb) e)

/-- the iterator made -/
def PIt (fx : Fx) (W : Wd) (P : List V → (St → Prop) → St → Prop) : Value → Shared → Prop := fun it s₂ => ∃ Io st ps W' σ' its need, it = .ref Io ∧ W.le W' ∧ Src fx W' its need Io st ∧ st 0 ps ∧ ExOk fx ps ∧
    Rep (fx.pushL ps) σ' W' s₂ ∧ P its need σ'

def SrvT (fx : Fx) (v : V) (σ : St) (P : List V → (St → Prop) → St → Prop) : Prop := ∀ W s u (E : Value → Shared → Prop), Rep fx σ W s → VR W v u → wpAny fx.M fx.A (pyIter u) (PIt fx W P) E s
theorem srv_refT (ok : FxAll fx) (hq : fx.qt = true) {i : Nat} {its : List V} {P : List V → (St → Prop) → St → Prop} (e : σ.hp[i]? = some (.list its)) (h : P its (fun σ' => σ'.hp[i]? = some (.list its)) σ) : SrvT fx (.ref i) σ P := by
  intro W s u E R r
  obtain ⟨a, xs, n, rfl, ha, h2, h3⟩ := R.list_at e r
  refine wpAny_pyIter_list (listObj_isList h2) ?_
  obtain ⟨R', ok'⟩ := R.exPush [(s.heap.objs.size, ({ cls := .type "list_iterator", data := .fields #[.ref a, .int 0 0] } : Obj))] (by simp) s.toks
    (fun b o e => Heap.get?_push_of_some _ e) (fun p hp => by rw [List.mem_singleton.mp hp]; exact Nat.le_refl _) (fun p hp => by rw [List.mem_singleton.mp hp]; exact Heap.get?_push_size _ rfl) (R.locals_at ok)
  exact ⟨_, _, _, W, σ, its, _, rfl, .refl _, src_list (ok.ok.handled hq) ha, ⟨_, rfl, rfl, rfl⟩, ok', R', h⟩
/-! calls of the built-in functions -/
def CallT (fx : Fx) (X : XP) (f : Value) (vs : List V) (σ : St) (Q : V → St → Prop) : Prop :=
  ∀ W s us, Rep fx σ W s → VRs W vs us → wpAny fx.M fx.A (call f us) (PV fx W Q) (PX fx W X) s

theorem ScrAt (ok : FxAll fx) {σ : St} (R : Rep fx σ W s) : ∃ xs, s.heap.IsList W.sc (List.toArray xs) ∧ IntsAre xs fx.ns ∧ fx.ns.length < 2 ^ 62 := by
  have st := ok.stays R
  refine R.elim fun _ g m news G F N C => ?_
  obtain ⟨xs, n, o, h1, h2, h3, h4, h5⟩ := ok.scr
  exact ⟨xs, ⟨o, st _ _ (C.scc ▸ h1), h2, n, h3⟩, h4, h5⟩

theorem len_refT {i : Nat} {vs : List V} {Q : V → St → Prop} (ev : σ.hp[i]? = some (.list vs)) (hn : vs.length < 2 ^ 63) (h : Q (.int vs.length) σ) : CallT fx X (.builtin "len") [.ref i] σ Q := by
  intro W s us R r
  cases r with
  | cons r r' =>
    cases r'
    obtain ⟨a, xs, c, rfl, ha, h2, h3⟩ := R.list_at ev r
    refine call_len_list (listObj_isList h2) (by simp [← h3.length]; omega) ?_
    have e1 : (xs.toArray.size : Int) = (vs.length : Int) := by simp [h3.length]
    rw [e1]
    exact .here (R.toks _) (.int _ _) h
theorem len_tupT {vs : List V} {Q : V → St → Prop} (hn : vs.length < 2 ^ 63) (h : Q (.int vs.length) σ) : CallT fx X (.builtin "len") [.tup vs] σ Q := by
  intro W s us R r
  cases r with
  | cons r r' =>
    cases r'
    obtain ⟨a, xs, rfl, h2, h3⟩ := R.tup_at r
    refine len_tuple (tupObj_isTup h2) (by simp [← h3.length]; omega) ?_
    have e1 : (xs.toArray.size : Int) = (vs.length : Int) := by simp [h3.length]
    rw [e1]
    exact .here (R.toks _) (.int _ _) h
theorem len_scrT (ok : FxAll fx) {Q : V → St → Prop} (h : Q (.int fx.ns.length) σ) : CallT fx X (.builtin "len") [.scr] σ Q := by
  intro W s us R r
  cases r with
  | cons r r' =>
    cases r'
    cases r
    obtain ⟨xs, h1, h2, h3⟩ := ScrAt ok R
    refine call_len_list h1 (by simp [h2.length]; omega) ?_
    have e1 : (xs.toArray.size : Int) = (fx.ns.length : Int) := by simp [h2.length]
    rw [e1]
    exact .here (R.toks _) (.int _ _) h

theorem intBool_ok {b : Bool} {Q : V → St → Prop} (h : Q (.int (if b then 1 else 0)) σ) : CallT fx X (.type "int") [.bool b] σ Q := by
  intro W s us R r
  cases r with
  | cons r₁ r =>
    cases r; cases r₁
    exact call_int_bool (.here (R.toks _) (.int _ _) h)

theorem listOf_ok {v : V} {vs : List V} {Q : V → St → Prop} (e : (∃ i, v = .ref i ∧ σ.hp[i]? = some (.list vs)) ∨ v = .tup vs) (hl : vs.length ≤ sizeLine) (h : Q (.ref σ.hp.length) ⟨σ.loc, σ.hp ++ [.list vs]⟩) : CallT fx X (.type "list") [v] σ Q := by
  intro W s us R r
  cases r with
  | cons r₁ r =>
    cases r
    have fin : ∀ (xs : List Value) (c' : Nat) (h' : Heap), VRs W vs xs → (∀ b o', s.heap.get? b = some o' → h'.get? b = some o') → h'.get? s.heap.objs.size = some (listObj xs c') → PV fx W Q (.ref s.heap.objs.size) { s with heap := h' } := by
      intro xs c' h' hv hk hg
      refine R.elim fun er g m news G F N C => ?_
      have hle : W.le ⟨W.al ++ [s.heap.objs.size], W.tp, W.sc⟩ := ⟨List.prefix_append _ _, fun _ h => h, rfl⟩
      have fresh : ∀ p ∈ news, p.1 ≠ s.heap.objs.size := fun p hp => Nat.ne_of_lt (Heap.lt_size (N p hp).1)
      obtain ⟨oL, _, _, hL, _⟩ := F.ns
      refine ⟨⟨W.al ++ [s.heap.objs.size], W.tp, W.sc⟩, ⟨σ.loc, σ.hp ++ [.list vs]⟩, .ref σ.hp.length, hle, ⟨rest_with er _ _, g, m, (s.heap.objs.size, listObj xs c') :: news, G, frKeeps F hk, fun p hp => ?_, ?_⟩, .ref (by simp [← C.len]), h⟩
      · rcases List.mem_cons.mp hp with rfl | hp
        · refine ⟨hg, Nat.ne_of_gt (Heap.lt_size hL), ?_⟩
          cases hq : g.get? s.heap.objs.size with
          | none => rfl
          | some o' => exact absurd (Heap.lt_size (F.keep _ _ hq)) (Nat.lt_irrefl _)
        · exact ⟨hk _ _ (N p hp).1, (N p hp).2⟩
      · refine ⟨newsNodup N C.nd _, fun p hp => .tail _ (C.exs p hp), fun p hp hm => ?_, ?_, by simp [C.len], fun i o' h => ?_, fun t ht => .tail _ (C.tps t ht), fun x v h => ?_, fun x c h => ?_, C.scc, C.mfx, C.ext⟩
        · rcases List.mem_append.mp hm with hm | hm
          · exact C.exd p hp hm
          · exact fresh p (C.exs p hp) (List.mem_singleton.mp hm)
        · refine List.nodup_append.mpr ⟨C.aln, by simp, fun a ha b hb => ?_⟩
          rw [List.mem_singleton.mp hb]
          obtain ⟨o', ho'⟩ := C.al_lt ha
          exact fresh _ ho'
        · dsimp only at h
          rcases Nat.lt_trichotomy i σ.hp.length with q | q | q
          · rw [List.getElem?_append_left q] at h
            obtain ⟨a, ob', h1, h2, h3⟩ := C.obs i o' h
            exact ⟨a, ob', prefix_get hle.1 h1, .tail _ h2, h3.mono hle⟩
          · subst q
            simp at h
            subst h
            exact ⟨_, _, by simp [← C.len], .head _, .list c' (hv.mono hle)⟩
          · rw [List.getElem?_eq_none (by simp; omega)] at h
            cases h
        · obtain ⟨u, h1, h2⟩ := C.loc x v h
          exact ⟨u, h1.mono hle, h2.mono fun p hp => .tail _ hp⟩
        · obtain ⟨h1, o', v, h2, h3⟩ := C.cel x c h
          refine ⟨fun hm => ?_, o', v, .tail _ h2, h3⟩
          rcases List.mem_append.mp hm with hm | hm
          · exact h1 hm
          · exact fresh _ h2 (List.mem_singleton.mp hm)
    rcases e with ⟨i, rfl, hi⟩ | rfl
    · obtain ⟨a, xs, c, rfl, ha, h2, h3⟩ := R.list_at hi r₁
      exact call_list_seq (hsz := by simp [← h3.length]; exact hl) a (.inl rfl) h2 rfl rfl fun h' c' hk hD => fin xs c' h' h3 hk hD
    · obtain ⟨a, xs, rfl, h2, h3⟩ := R.tup_at r₁
      exact call_list_seq (hsz := by simp [← h3.length]; exact hl) a (.inr rfl) h2 rfl rfl fun h' c' hk hD => fin xs c' h' h3 hk hD

theorem isi_list {a : Addr} {o : Obj} {T : String} {A : Around} {E : Value → Shared → Prop} {prog : Program} {w : World} {Q : Value → Shared → Prop} (ho : s.heap.get? a = some o) (hc : o.cls = .type "list") (hT : T = "int" ∨ T = "bool" ∨ T = "list" ∨ T = "tuple" ∨ T = "str")
    (h : ∀ tk, Q (.bool (decide (T = "list"))) { s with toks := tk }) : wpAny (model prog w) A (call (.builtin "isinstance") [.ref a, .type T]) Q E s := by
  have no : ∀ T, (Value.type "list" == Value.type T) = false → typeOf (.type T) = pure (.type "type") → isSubtype (.type "list") (.type T) = pure false → (∀ tk, Q (.bool false) { s with toks := tk }) → wpAny (model prog w) A (call (.builtin "isinstance") [.ref a, .type T]) Q E s :=
    fun T h1 h2 h3 k => call_isinstance (isinstance_false_list h1 h2 h3) ⟨⟨o, ho, hc⟩, k _⟩
  rcases hT with rfl | rfl | rfl | rfl | rfl
  · exact no "int" (by decide) F.isi_meta_int (by rw [isSubtype_type]; kernel_rfl) h
  · exact no "bool" (by decide) F.isi_meta_bool (by rw [isSubtype_type]; kernel_rfl) h
  · exact call_isinstance (isinstance_true (Tx := "list") F.isi_meta_list (by rw [isSubtype_type]; kernel_rfl)) ⟨⟨o, ho, hc⟩, h s.toks⟩
  · exact no "tuple" (by decide) F.isi_meta_tuple (by rw [isSubtype_type]; kernel_rfl) h
  · exact no "str" (by decide) F.isi_meta_str (by rw [isSubtype_type]; kernel_rfl) h
theorem isi_tup {a : Addr} {o : Obj} {T : String} {A : Around} {E : Value → Shared → Prop} {prog : Program} {w : World} {Q : Value → Shared → Prop} (ho : s.heap.get? a = some o) (hc : o.cls = .type "tuple") (hT : T = "int" ∨ T = "bool" ∨ T = "list" ∨ T = "tuple" ∨ T = "str")
    (h : ∀ tk, Q (.bool (decide (T = "tuple"))) { s with toks := tk }) : wpAny (model prog w) A (call (.builtin "isinstance") [.ref a, .type T]) Q E s := by
  have no : ∀ T, (Value.type "tuple" == Value.type T) = false → typeOf (.type T) = pure (.type "type") → isSubtype (.type "tuple") (.type T) = pure false → (∀ tk, Q (.bool false) { s with toks := tk }) → wpAny (model prog w) A (call (.builtin "isinstance") [.ref a, .type T]) Q E s :=
    fun T h1 h2 h3 k => call_isinstance (isinstance_false_tuple h1 h2 h3) ⟨⟨o, ho, hc⟩, k _⟩
  rcases hT with rfl | rfl | rfl | rfl | rfl
  · exact no "int" (by decide) F.isi_meta_int (by rw [isSubtype_type]; kernel_rfl) h
  · exact no "bool" (by decide) F.isi_meta_bool (by rw [isSubtype_type]; kernel_rfl) h
  · exact no "list" (by decide) F.isi_meta_list (by rw [isSubtype_type]; kernel_rfl) h
  · exact call_isinstance (isinstance_true (Tx := "tuple") F.isi_meta_tuple (by rw [isSubtype_type]; kernel_rfl)) ⟨⟨o, ho, hc⟩, h s.toks⟩
  · exact no "str" (by decide) F.isi_meta_str (by rw [isSubtype_type]; kernel_rfl) h

/-- isinstance, by how the value lies -/
theorem isi_of {v : V} {T : String} {c : Bool} {Q : V → St → Prop} (e : ∀ W s u (Q : Value → Shared → Prop) (E : Value → Shared → Prop), Rep fx σ W s → VR W v u → (∀ tk, Q (.bool c) { s with toks := tk }) → wpAny fx.M fx.A (call (.builtin "isinstance") [u, .type T]) Q E s) (h : Q (.bool c) σ) : CallT fx X (.builtin "isinstance") [v, .glob (.type T)] σ Q := by
  intro W s us R r
  cases r with
  | cons r₁ r =>
    cases r with
    | cons r₂ r =>
      cases r; cases r₂
      exact e W s _ _ _ R r₁ fun tk => .here (R.toks tk) (.bool _) h

/-! places -/
def getI (xs : List V) (k : Int) : Option V := if 0 ≤ k then xs[k.toNat]? else if -(xs.length : Int) ≤ k then xs[(k + xs.length).toNat]? else none

def SubT (fx : Fx) (X : XP) (value slice : Expr) (o i : V) (σ : St) (Q : V → St → Prop) : Prop :=
  ∀ W s u₁ u₂, Rep fx σ W s → VR W o u₁ → VR W i u₂ → wpAny fx.M fx.A (subscriptTail value slice u₁ u₂) (PV fx W Q) (PX fx W X) s

def notSlice : Expr → Bool
  | .Slice .. => false
  | _ => true
theorem subscripted_plain {slice : Expr} (h : notSlice slice = true) (o i : Value) : subscripted slice false o i = operate [o, i] (getItem o i) := by
  cases slice <;> first | rfl | cases h

theorem sub_list {value slice : Expr} (hs : notSlice slice = true) {j : Nat} {xs : List V} {k : Int} {v : V} {Q : V → St → Prop} (ho : σ.hp[j]? = some (.list xs)) (hk : -(2 ^ 63) ≤ k ∧ k < 2 ^ 63) (e : getI xs k = some v) (h : Q v σ) :
    SubT fx X value slice (.ref j) (.int k) σ Q := by
  intro W s u₁ u₂ R r₁ r₂
  obtain ⟨a, ys, n, rfl, ha, h2, h3⟩ := R.list_at ho r₁
  cases r₂
  have hl := listObj_isList h2
  refine tail_any hl.typeIs slot_list_getitem.lookup ?_ (subscripted_plain hs _ _)
  unfold getI at e
  split at e
  · rename_i h0
    obtain ⟨x, hx, hv⟩ := h3.get e
    exact wpAny_getItem_list hl h0 hk.2 (by simpa using hx) (.here R hv h)
  · rename_i h0
    split at e
    · rename_i h1
      obtain ⟨x, hx, hv⟩ := h3.get e
      exact wpAny_getItem_list_neg hl (by omega) (by simpa [h3.length] using h1) hk.1 (by simpa [h3.length] using hx) (.here R hv h)
    · cases e
theorem sub_tup {value slice : Expr} (hs : notSlice slice = true) {xs : List V} {k : Int} {v : V} {Q : V → St → Prop} (hk : -(2 ^ 63) ≤ k ∧ k < 2 ^ 63) (e : getI xs k = some v) (h : Q v σ) :
    SubT fx X value slice (.tup xs) (.int k) σ Q := by
  intro W s u₁ u₂ R r₁ r₂
  obtain ⟨a, ys, rfl, h2, h3⟩ := R.tup_at r₁
  cases r₂
  rename_i tk
  have hl := tupObj_isTup h2
  refine tail_any hl.typeIs slot_tuple_getitem.lookup ?_ (subscripted_plain hs _ _)
  unfold getI at e
  have key : ∀ n, seqIndex? k ys.toArray.size = some n → xs[n]? = some v → wpAny fx.M fx.A (getItem (.ref a) (.int k tk)) (PV fx W Q) (PX fx W X) s := fun n h1 h2' => by
    obtain ⟨x, hx, hv⟩ := h3.get h2'
    exact PyProof.Rows.getItem_tuple hl hk.1 hk.2 h1 (by simpa using hx) (.here R hv h)
  split at e
  · rename_i h0
    refine key k.toNat ?_ e
    have hlt : k.toNat < xs.length := by
      rcases Nat.lt_or_ge k.toNat xs.length with z | z
      · exact z
      · rw [List.getElem?_eq_none z] at e; cases e
    have hlt' : k < ys.length := by rw [← h3.length]; omega
    unfold seqIndex?
    simp [Int.not_lt.mpr h0, h0, hlt']
  · rename_i h0
    split at e
    · rename_i h1
      refine key (k + xs.length).toNat ?_ e
      unfold seqIndex?
      rw [h3.length] at h1 ⊢
      have hneg : k < 0 := by omega
      simp only [List.size_toArray, hneg, if_true]
      rw [if_pos (by simp; omega)]
    · cases e
theorem sub_scr (ok : FxAll fx) {value slice : Expr} (hs : notSlice slice = true) {k : Int} {n : Int} {Q : V → St → Prop} (h0 : 0 ≤ k) (e : fx.ns[k.toNat]? = some n) (h : Q (.int n) σ) :
    SubT fx X value slice .scr (.int k) σ Q := by
  intro W s u₁ u₂ R r₁ r₂
  cases r₁; cases r₂
  obtain ⟨xs, h1, h2, h3⟩ := ScrAt ok R
  obtain ⟨t, hx⟩ := h2.get k.toNat n e
  have hlt : k.toNat < fx.ns.length := by
    rcases Nat.lt_or_ge k.toNat fx.ns.length with z | z
    · exact z
    · rw [List.getElem?_eq_none z] at e; cases e
  refine tail_any h1.typeIs slot_list_getitem.lookup ?_ (subscripted_plain hs _ _)
  exact wpAny_getItem_list h1 h0 (by omega) (by simpa using hx) (.here R (.int _ _) h)

theorem evSub {value slice : Expr} {pos : Pos} {Q : V → St → Prop} (h : EvE fx X value σ (fun o σ₁ => EvE fx X slice σ₁ (fun i σ₂ => SubT fx X value slice o i σ₂ Q))) : EvE fx X (.Subscript value slice pos) σ Q := by
  intro W s R
  refine Subscript_ (wpAny_mono (h W s R) ?_ fun _ _ x => x)
  refine fun u₁ s₁ zz => zz.elim fun W₁ σ₁ a le₁ R₁ r₁ h₁ => ?_
  refine wpAny_mono (h₁ W₁ s₁ R₁) ?_ fun _ _ x => x.mono le₁ fun _ _ y => y
  refine fun u₂ s₂ zz => zz.elim fun W₂ σ₂ b le₂ R₂ r₂ h₂ => ?_
  exact wpAny_mono (h₂ W₂ s₂ u₁ u₂ R₂ (r₁.mono le₂) r₂) (fun _ _ x => x.mono (le₁.trans le₂) fun _ _ y => y) fun _ _ x => x.mono (le₁.trans le₂) fun _ _ y => y

/-! a list grows -/
theorem append_ok {i : Nat} {vs : List V} {v : V} {Q : V → St → Prop} (ho : σ.hp[i]? = some (.list vs)) (hl : vs.length ≤ sizeLine) (h : Q .none ⟨σ.loc, σ.hp.set i (.list (vs ++ [v]))⟩) : CallT fx X (.builtin "list.append") [.ref i, v] σ Q := by
  intro W s us R r
  cases r with
  | cons r₁ r =>
    cases r with
    | cons r₂ r =>
      cases r
      obtain ⟨a, xs, n, rfl, ha, h2, h3⟩ := R.list_at ho r₁
      refine wpAny_list_append_plain (hsz := by simp [← h3.length]; exact hl) ⟨n, h2⟩ fun h' hp hs => ?_
      obtain ⟨n', hg⟩ := hp
      rename_i y
      refine ⟨W, _, .none, .refl _, R.upd ho ha (.list (xs := xs ++ [y]) n' (h3.append (.cons r₂ .nil))) s.toks hs.extBut (by simpa using hg), .none, h⟩

/-- a method of a built-in type is found -/
def GetM (fx : Fx) (v : V) (name : Str) (id : String) (σ : St) : Prop := ∀ W s u (pl : Sem Bool) (Q : Value × List Value → Shared → Prop) (E : Value → Shared → Prop), Rep fx σ W s → VR W v u → Q (.builtin id, [u]) s → wpAny fx.M fx.A (getMethod u name pl) Q E s

theorem getM_list {i : Nat} {vs : List V} {name : Str} {id : String} (ho : σ.hp[i]? = some (.list vs)) (slot : Slot "list" name id) (hty : typeOf (.builtin id) = pure (.type "method_descriptor")) : GetM fx (.ref i) name id σ := by
  intro W s u pl Q E R r q
  obtain ⟨a, xs, n, rfl, ha, h2, h3⟩ := R.list_at ho r
  exact getMethod_builtin ⟨_, h2, rfl⟩ PySem.F.plainAttrs_list slot hty (fun b e => by cases e; exact ⟨_, h2, rfl⟩) q

def noStar : Expr → Bool
  | .Starred .. => false
  | _ => true
theorem star_cons {e : Expr} (h : noStar e = true) (rest : List Expr) (env : Env) : starEach (e :: rest) env = (false, eval e env) :: starEach rest env := by
  cases e <;> first | rfl | cases h
theorem star_any : ∀ {es : List Expr}, es.all noStar = true → ∀ (pos : Pos) (env : Env), (backTo pos (starEach es env)).any (·.1) = false
  | [], _, _, _ => rfl
  | e :: r, h, pos, env => by
    rw [List.all_cons, Bool.and_eq_true] at h
    rw [star_cons h.1]
    have := star_any h.2 pos env
    simpa [backTo] using this

theorem evCallB (ok : FxAll fx) {f : Str} {p pos : Pos} {id : String} {e : Expr} {rest : List Expr} {Q : V → St → Prop} (hf : fx.pg.gl f = some (.builtin id)) (hk : fx.env.kindOf f = some .globalImplicit) (hd : (f == ("__debug__" : Str)) = false) (hs : (e :: rest).all noStar = true)
    (h : EvEs fx X (e :: rest) σ (fun vs σ₁ => CallT fx X (.builtin id) vs σ₁ Q)) : EvE fx X (.Call (.Name f p) (e :: rest) [] pos) σ Q := by
  intro W s R
  rw [List.all_cons, Bool.and_eq_true] at hs
  refine Call_Name rfl (ok.glb f _ p hf hk σ W s _ _ R ?_ hd)
  refine callWith_builtin1 (wpAny_mono (h W s pos R) ?_ fun _ _ x => x) (star_cons hs.1 _ _) (star_any hs.2 _ _)
  refine fun us s₁ zz => zz.elim fun W₁ σ₁ vs le₁ R₁ r₁ h₁ => ?_
  exact wpAny_mono (h₁ W₁ s₁ us R₁ r₁) (fun _ _ x => x.mono le₁ fun _ _ y => y) fun _ _ x => x.mono le₁ fun _ _ y => y
theorem evCallTy (ok : FxAll fx) {f : Str} {p pos : Pos} {T : String} {e : Expr} {rest : List Expr} {Q : V → St → Prop} (hf : fx.pg.gl f = some (.type T)) (hk : fx.env.kindOf f = some .globalImplicit) (hd : (f == ("__debug__" : Str)) = false) (hs : (e :: rest).all noStar = true)
    (h : EvEs fx X (e :: rest) σ (fun vs σ₁ => CallT fx X (.type T) vs σ₁ Q)) : EvE fx X (.Call (.Name f p) (e :: rest) [] pos) σ Q := by
  intro W s R
  rw [List.all_cons, Bool.and_eq_true] at hs
  refine Call_Name rfl (ok.glb f _ p hf hk σ W s _ _ R ?_ hd)
  refine PyProof.Rows.callWith_type1 (wpAny_mono (h W s pos R) ?_ fun _ _ x => x) (star_cons hs.1 _ _) (star_any hs.2 _ _)
  refine fun us s₁ zz => zz.elim fun W₁ σ₁ vs le₁ R₁ r₁ h₁ => ?_
  exact wpAny_mono (h₁ W₁ s₁ us R₁ r₁) (fun _ _ x => x.mono le₁ fun _ _ y => y) fun _ _ x => x.mono le₁ fun _ _ y => y

def gV : Value → V
  | .int n _ => .int n
  | .str x _ => .str x
  | .bool b => .bool b
  | .none => .none
  | v => .glob v
theorem gV_ok (W : Wd) (v : Value) : VR W (gV v) v := by
  cases v <;> simp only [gV] <;> first | exact .none | exact .bool _ | exact .int _ _ | exact .str _ _ | exact .glob _
theorem evGlob (ok : FxAll fx) {x : Str} {pos : Pos} {v : Value} {Q : V → St → Prop} (hx : fx.pg.gl x = some v) (hk : fx.env.kindOf x = some .globalImplicit) (hd : (x == ("__debug__" : Str)) = false) (h : Q (gV v) σ) : EvE fx X (.Name x pos) σ Q :=
  fun W s R => ok.glb x v pos hx hk σ W s _ _ R (.here R (gV_ok W v) h) hd

def RngP (vs : List V) (P : List V → Prop) : Prop :=
  (∃ n : Int, vs = [.int n] ∧ (-(2 ^ 62) ≤ n ∧ n < 2 ^ 62) ∧ P (rngItems 0 n.toNat)) ∨ ∃ a b : Int, vs = [.int a, .int b] ∧ ((-(2 ^ 62) ≤ a ∧ a < 2 ^ 62) ∧ (-(2 ^ 62) ≤ b ∧ b < 2 ^ 62)) ∧ P (rngItems a (b - a).toNat)
theorem iter_range (ok : FxAll fx) (hq : fx.qt = true) {f : Str} {p pos : Pos} {e : Expr} {rest : List Expr} {P : List V → (St → Prop) → St → Prop} (hf : fx.pg.gl f = some (.type "range")) (hk : fx.env.kindOf f = some .globalImplicit) (hd : (f == ("__debug__" : Str)) = false) (hs : (e :: rest).all noStar = true)
    (h : EvEs fx X (e :: rest) σ (fun vs σ₁ => RngP vs fun its => P its (fun _ => True) σ₁)) : IterT fx X (.Call (.Name f p) (e :: rest) [] pos) σ P := by
  intro W s R
  rw [List.all_cons, Bool.and_eq_true] at hs
  refine Call_Name rfl (ok.glb f _ p hf hk σ W s _ _ R ?_ hd)
  refine PyProof.Rows.callWith_type1 (wpAny_mono (h W s pos R) ?_ fun _ _ x => x) (star_cons hs.1 _ _) (star_any hs.2 _ _)
  refine fun us s₁ zz => zz.elim fun W₁ σ₁ vs le₁ R₁ r₁ hP => ?_
  have fin : ∀ (a b : Int) (t u v : Tok) (tk : Nat) (n : Nat), Builtin.Range.rangeSize a b 1 = (n : Int) → Builtin.Range.small a b 1 = true → P (rngItems a n) (fun _ => True) σ₁ →
      wpAny fx.M fx.A (pyIter (.ref s₁.heap.objs.size)) (fun it s₂ => ∃ Io st ps W' σ' its need, it = .ref Io ∧ W.le W' ∧ Src fx W' its need Io st ∧ st 0 ps ∧ ExOk fx ps ∧ Rep (fx.pushL ps) σ' W' s₂ ∧ P its need σ') (PX fx W X)
        { s₁ with heap := s₁.heap.push { cls := .type "range", data := .fields #[.int a t, .int b u, .int 1 v] }, toks := tk } := by
    intro a b t u v tk n hn hsm hP
    have R₂ := R₁.keep (h' := s₁.heap.push { cls := .type "range", data := .fields #[.int a t, .int b u, .int 1 v] }) tk fun b o e => Heap.get?_push_of_some _ e
    refine wpAny_pyIter_range (IsRange.new _ a b 1 t u v) hsm ?_
    obtain ⟨R', ok'⟩ := R₂.exPush [((s₁.heap.push { cls := .type "range", data := .fields #[.int a t, .int b u, .int 1 v] }).objs.size, ({ cls := .type "range_iterator", data := .fields #[rawInt a, rawInt (Builtin.Range.rangeSize a b 1), rawInt 1] } : Obj))] (by simp) tk
      (fun b o e => Heap.get?_push_of_some _ e) (fun p hp => by rw [List.mem_singleton.mp hp]; exact Nat.le_refl _) (fun p hp => by rw [List.mem_singleton.mp hp]; exact Heap.get?_push_size _ rfl) (R₂.locals_at ok)
    exact ⟨_, _, _, W₁, σ₁, _, _, rfl, le₁, src_range (ok.ok.handled hq), by simp only [rngItSt, hn]; simp, ok', R', hP⟩
  rcases hP with ⟨m, rfl, hok, hP⟩ | ⟨m, m', rfl, hok, hP⟩
  · cases r₁ with
    | cons r r' =>
      cases r'; cases r
      refine call_range_1 (fin 0 m _ _ _ _ _ ?_ (small_one (by decide) (by decide) hok.1 hok.2) hP)
      rw [rangeSize_one]; split <;> omega
  · cases r₁ with
    | cons r r' =>
      cases r' with
      | cons r₂ r' =>
        cases r'; cases r; cases r₂
        refine call_range_2 (fin m m' _ _ _ _ _ ?_ (small_one hok.1.1 hok.1.2 hok.2.1 hok.2.2) hP)
        rw [rangeSize_one]; split <;> omega

theorem iter_val {iter : Expr} {P : List V → (St → Prop) → St → Prop} (h : EvE fx X iter σ (fun v σ₁ => SrvT fx v σ₁ P)) : IterT fx X iter σ P := by
  intro W s R
  refine wpAny_mono (h W s R) ?_ fun _ _ x => x
  refine fun u s₁ zz => zz.elim fun W₁ σ₁ v le₁ R₁ r₁ h₁ => ?_
  refine wpAny_mono (h₁ W₁ s₁ u (PX fx W X) R₁ r₁) ?_ fun _ _ x => x
  rintro it s₂ ⟨Io, st, ps, W', σ', its, need, a, b, c⟩
  exact ⟨Io, st, ps, W', σ', its, need, a, le₁.trans b, c⟩
end
end Mine

set_option autoImplicit false
namespace Mine
open PySem PySem.W PySem.Calls PySem.Spec PyProof.Rows

def retV : Fl → V
  | .ret v => v
  | _ => .none
def flowV : Flow → Value
  | .ret v => v
  | _ => .none
theorem retV_ok {W : Wd} {fl : Fl} {f : Flow} (h : FlR W fl f) : VR W (retV fl) (flowV f) := by
  cases h <;> first | exact .none | assumption

def bindV : List Str → List V → (Str → Option V) → Str → Option V
  | x :: xs, v :: vs, l => bindV xs vs (setN l x v)
  | _, _, l => l

/-- a call, as code -/
def RB (fx : Fx) (W : Wd) (X : XP) (Q : V → St → Prop) : Result → Shared → Prop := fun r s' => match r with | .ok (.ret v) => PV fx W Q v s' | .ok _ => False | .error e => PX fx W X e s'
def CallD (fx : Fx) (X : XP) (f : Value) (vs : List V) (σ : St) (Q : V → St → Prop) : Prop :=
  ∀ W s us, Rep fx σ W s → VRs W vs us → codeAny fx.M fx.A (.call f ⟨us, []⟩) (RB fx W X Q) s
/-- a def of the text, called -/
def CallOK (pg : Pg) (lev : Nat) (qt : Bool) (ns : List Int) (f : Addr) (vs : List V) (hp : List O) (X : Value → List O → Prop) (Q : V → List O → Prop) : Prop :=
  ∀ fx : Fx, FxAll fx → fx.pg = pg → lev ≤ fx.lev → fx.ns = ns → (qt = true → fx.qt = true) → ∀ loc, CallD fx (fun cls σ' => σ'.loc = loc ∧ X cls σ'.hp) (.ref f) vs ⟨loc, hp⟩ (fun v σ' => σ'.loc = loc ∧ Q v σ'.hp)

/-- where a def lies, and what it is -/
structure FnAt (pg : Pg) (f : Addr) (xs : List Str) (body : List Stmt) (scope : Scope) : Prop where
  data : ∃ name qual params dV kV doc pm an cdv ct oc od osl, pg.K.lookup f = some ⟨oc, od, .func (fnOf name qual params body scope dV kV doc pm an cdv ct), osl⟩ ∧ codeIn pg.K cdv qual = true ∧
    (∀ us : List Value, us.length = xs.length → bindArgs (fnOf name qual params body scope dV kV doc pm an cdv ct) ⟨us, []⟩ = pure (xs.zip us))
  kinds : ∀ x ∈ xs, scope.names.lookup x = some .local ∨ scope.names.lookup x = some .cell
  cells : ((cellsFrom 0 scope.names []).map (·.1)).Nodup
  hco : scope.isCoroutine = false
  hgen : scope.isGenerator = false
  hk : scope.kind = .function

theorem cf_some {x : Str} : ∀ (names : List (Str × NameKind)) (n : Nat) (acc : List (Str × Addr)), names.lookup x = some .cell ∨ (acc.lookup x).isSome = true → ((cellsFrom n names acc).lookup x).isSome = true
  | [], _, _, h => h.elim (fun e => by cases e) id
  | (y, k) :: r, n, acc, h => by
    unfold cellsFrom
    by_cases hk : (k == .cell) = true
    · rw [if_pos hk]
      refine cf_some r (n + 1) ((y, n) :: acc) ?_
      by_cases hy : (x == y) = true
      · exact .inr (by rw [List.lookup_cons, hy]; rfl)
      · refine h.imp (fun e => ?_) fun e => ?_
        · rw [List.lookup_cons] at e; simpa only [hy] using e
        · rw [List.lookup_cons]; simpa only [hy] using e
    · rw [if_neg hk]
      refine cf_some r n acc ?_
      by_cases hy : (x == y) = true
      · refine .inr (h.elim (fun e => ?_) id)
        rw [List.lookup_cons, hy] at e
        exact absurd (by rw [Option.some.inj e]; rfl) hk
      · refine h.imp (fun e => ?_) id
        rw [List.lookup_cons] at e; simpa only [hy] using e

theorem cf_addr : ∀ (names : List (Str × NameKind)) (n lo : Nat) (acc : List (Str × Addr)), lo ≤ n → (acc.map (·.2)).Nodup → (∀ p ∈ acc, lo ≤ p.2 ∧ p.2 < n) →
    ((cellsFrom n names acc).map (·.2)).Nodup ∧ ∀ p ∈ cellsFrom n names acc, lo ≤ p.2
  | [], _, _, _, _, h, h' => ⟨h, fun p hp => (h' p hp).1⟩
  | (y, k) :: r, n, lo, acc, hl, h, h' => by
    unfold cellsFrom
    split
    · refine cf_addr r (n + 1) lo ((y, n) :: acc) (Nat.le_succ_of_le hl) ?_ fun p hp => ?_
      · rw [List.map_cons, List.nodup_cons]
        refine ⟨fun hm => ?_, h⟩
        obtain ⟨p, hp, e⟩ := List.mem_map.mp hm
        have := (h' p hp).2
        exact absurd this (by rw [show p.2 = n from e]; exact Nat.lt_irrefl _)
      · rcases List.mem_cons.mp hp with rfl | hp
        · exact ⟨hl, Nat.lt_succ_self _⟩
        · exact ⟨(h' p hp).1, Nat.lt_succ_of_lt (h' p hp).2⟩
    · exact cf_addr r n lo acc hl h h'

theorem lookup_mem {α β : Type} [BEq α] [LawfulBEq α] : ∀ {l : List (α × β)} {x : α} {y : β}, l.lookup x = some y → (x, y) ∈ l
  | (a, b) :: r, x, y, h => by
    rw [List.lookup_cons] at h
    split at h
    · rename_i e
      cases h
      rw [eq_of_beq e]
      exact .head _
    · exact .tail _ (lookup_mem h)

theorem snd_inj {α β : Type} : ∀ {l : List (α × β)}, (l.map (·.2)).Nodup → ∀ {x y : α} {c : β}, (x, c) ∈ l → (y, c) ∈ l → x = y
  | [], _, _, _, _, h, _ => by cases h
  | (a, b) :: r, nd, x, y, c, h, h' => by
    rw [List.map_cons, List.nodup_cons] at nd
    rcases List.mem_cons.mp h with e | h
    · rcases List.mem_cons.mp h' with e' | h'
      · rw [← e'] at e; cases e; rfl
      · cases e; exact absurd (List.mem_map.mpr ⟨_, h', rfl⟩) nd.1
    · rcases List.mem_cons.mp h' with e' | h'
      · cases e'; exact absurd (List.mem_map.mpr ⟨_, h, rfl⟩) nd.1
      · exact snd_inj nd.2 h h'

theorem cellsAre_keys {cm : Str → Option Value} : ∀ {cs : List (Str × Addr)} {cells : List (Addr × Obj)}, CellsAre cm cs cells → cells.map (·.1) = cs.map (·.2)
  | _, _, .nil => rfl
  | _, _, .cons _ r => by simp [cellsAre_keys r]
theorem cellsAre_at {cm : Str → Option Value} : ∀ {cs : List (Str × Addr)} {cells : List (Addr × Obj)}, CellsAre cm cs cells → ∀ {x : Str} {c : Addr}, (x, c) ∈ cs → ∃ o, (c, o) ∈ cells ∧ o.data = .cell (cm x)
  | _, _, .nil => fun h => by cases h
  | _, _, .cons hd r => fun h => by
    rcases List.mem_cons.mp h with e | h
    · cases e; exact ⟨_, .head _, hd⟩
    · obtain ⟨o, h1, h2⟩ := cellsAre_at r h
      exact ⟨o, .tail _ h1, h2⟩

theorem bind_rel {W : Wd} {kindOf : Str → Option NameKind} : ∀ {xs : List Str} {vs : List V} {us : List Value}, VRs W vs us → (∀ x ∈ xs, kindOf x = some .local ∨ kindOf x = some .cell) → ∀ (l : Str → Option V) (m cm : Str → Option Value),
    (∀ y v, l y = some v → ∃ u, VR W v u ∧ ((kindOf y = some .local ∧ m y = some u) ∨ (kindOf y = some .cell ∧ cm y = some u))) →
    ∀ y v, bindV xs vs l y = some v → ∃ u, VR W v u ∧ ((kindOf y = some .local ∧ bindL kindOf (xs.zip us) m y = some u) ∨ (kindOf y = some .cell ∧ bindC kindOf (xs.zip us) cm y = some u))
  | [], _, _, _, _, l, m, cm, h, y, v, e => by
    rw [show bindV [] _ l = l by unfold bindV; rfl] at e
    simpa [bindL, bindC] using h y v e
  | x :: xs, _, _, .nil, _, l, m, cm, h, y, v, e => by
    rw [show bindV (x :: xs) [] l = l by unfold bindV; rfl] at e
    simpa [bindL, bindC] using h y v e
  | x :: xs, _, _, .cons (v := v₀) (vs := vs) (x := u₀) (xs := us) r rs, hk, l, m, cm, h, y, v, e => by
    rw [show bindV (x :: xs) (v₀ :: vs) l = bindV xs vs (setN l x v₀) by rfl] at e
    rw [List.zip_cons_cons]
    simp only [bindL, bindC]
    refine bind_rel rs (fun z hz => hk z (.tail _ hz)) (setN l x v₀) _ _ (fun z w hw => ?_) y v e
    unfold setN at hw
    split at hw
    · rename_i q
      subst q
      cases hw
      refine ⟨u₀, r, ?_⟩
      rcases hk z (.head _) with q | q
      · exact .inl ⟨q, by simp [q]⟩
      · exact .inr ⟨q, by simp [q]⟩
    · rename_i q
      obtain ⟨u, h1, h2⟩ := h z w hw
      refine ⟨u, h1, ?_⟩
      rcases h2 with ⟨a, b⟩ | ⟨a, b⟩
      · refine .inl ⟨a, ?_⟩
        split
        · simp [q, b]
        · exact b
      · refine .inr ⟨a, ?_⟩
        split
        · exact b
        · simp [q, b]

/-- a def is entered -/
theorem enterX {prog : Program} {w : World} {A₀ A : Around} {s : Shared} {base h₀ : Heap} {outer : List Env} {L : Addr} {m : Str → Option Value} {env : Env} {news : List (Addr × Obj)}
    {R : Result → Shared → Prop} {name qual : Str} {params : Arguments} {body : List Stmt} {scope : Scope} {dV kV doc pm cdv ct : Value} {an : Option Addr} {fo : Obj} {f : Addr} {args : Args} {binds : List (Str × Value)}
    (B : Below A₀ base outer h₀) (F : Fr h₀ L s.heap m) (N : News h₀ L s.heap news) (hlim : s.heap.NoLimit) (hA : A.frames = some (env :: outer)) (hf : env.frame = some L) (hke : env.scope.kind = .function)
    (ho : s.heap.get? f = some fo) (hd : fo.data = .func (fnX name qual params body scope [] dV kV doc pm an cdv ct)) (hcd : s.heap.CodeRec cdv qual) (hroom : A.depth < recursionLimit)
    (hbind : BindsTo s (fnX name qual params body scope [] dV kV doc pm an cdv ct) args binds)
    (hkind : ∀ n, ∀ x ∈ binds, scope.names.lookup x.1 = some .local ∨ (scope.names.lookup x.1 = some .cell ∧ ((cellsFrom n scope.names []).lookup x.1).isSome = true))
    (hnd : ((cellsFrom 0 scope.names []).map (·.1)).Nodup)
    (h : ∀ g L' h₁ tk cells, Fr h₀ L g m → Fr g L' h₁ (bindL (envOfC qual scope L' f cdv).kindOf binds fun _ => none) → News g L' h₁ (cells ++ news) →
      CellsAre (bindC (envOfC qual scope L' f cdv).kindOf binds fun _ => none) (cellsFrom (L' + 1) scope.names []) cells → Below A base (env :: outer) g → h₀.StaysIn g → (∀ p ∈ news, p.1 < L') →
      wpAny (model prog w) (A.deeper (envOfC qual scope L' f cdv)) (execs body (envOfC qual scope L' f cdv))
        (fun fl s' => R (.ok (.ret (match fl with | .ret v => v | _ => .none))) s')
        (fun e s' => wpAny (model prog w) (A.deeper (envOfC qual scope L' f cdv)) (leaving (envOfC qual scope L' f cdv) e) (fun _ s'' => R (.error e) s'') (fun e' s'' => R (.error e') s'') s')
        { s with heap := h₁, toks := tk })
    (hco : scope.isCoroutine = false) (hgen : scope.isGenerator = false) (hk : scope.kind = .function) : codeAny (model prog w) A (.call (.ref f) args) R s := by
  obtain ⟨FG, BG, st, _⟩ := groundX (R := R) B F N hA hf hke
  refine codeAny_call_function hroom ho hd hco hgen rfl hcd (hbind _ _ _ _ ?_)
  refine wpAny_newFunctionEnv_cells hk (hkind _) fun env' he s' x => ?_
  subst he
  refine ⟨hlim.keeps x.toInCall.keep, codeAny_func ?_⟩
  obtain ⟨h₁, tk, rfl, _⟩ := x.done
  have hk₁ := x.toInCall.keep
  obtain ⟨cells, NC, Y⟩ := Cl.news (h₀ := s.heap) (Nat.le_refl _) fun n c hm => ⟨x.cell n c (lookup_of_mem_nodup (cellsFrom_names scope.names 0 (s.heap.objs.size + 1) [] [] rfl ▸ hnd) hm), x.above n c hm⟩
  refine wpAny_mono (h _ s.heap.objs.size h₁ tk cells FG ⟨x.toInCall.ns, fun b o e => hk₁ b o (of_hideAll _ e), Nat.le_of_eq (hideAll_size _ _)⟩ (fun p hp => ?_) Y BG st (fun p hp => Heap.lt_size (N p hp).1)) (fun fl s' hl => hl) fun _ _ y => y
  rcases List.mem_append.mp hp with hp | hp
  · refine ⟨(NC p hp).1, (NC p hp).2.1, ?_⟩
    cases q : (hideAll s.heap (news.map (·.1))).get? p.1 with
    | none => rfl
    | some o => have := of_hideAll _ q; rw [(NC p hp).2.2] at this; cases this
  · exact ⟨hk₁ _ _ (N p hp).1, Nat.ne_of_lt (Heap.lt_size (N p hp).1), hideAll_none _ (List.mem_map_of_mem hp)⟩

/-- the caller's ground, behind a call -/
theorem backG {outer : List Env} {env : Env} {L L' : Addr} {gc g g' h' h : Heap} {m m' : Str → Option Value} {news' : List (Addr × Obj)} (hf : env.frame = some L) (F : Fr gc L h m) (D : KtsDicts (outer.filterMap (·.frame)) gc) (FG : Fr gc L g m)
    (T : KtsTurn ((env :: outer).filterMap (·.frame)) g g') (F' : Fr g' L' h' m') (N' : News g' L' h' news') :
    ∃ g₁, KtsTurn (outer.filterMap (·.frame)) gc g₁ ∧ Fr g₁ L h' m ∧ News g₁ L h' news' := by
  have nL : gc.get? L = none := ground_self F.above
  obtain ⟨oL, es, ep, hLg, hLd, hLk, hLf⟩ := FG.ns
  obtain ⟨sl, hs⟩ := T.up hLg
  obtain ⟨T₁, S₁⟩ := kts_turn_at (h := h') (fs := outer.filterMap (·.frame)) (g := gc) (fun b hb => let ⟨o, _, _, h1, _⟩ := D b hb; ⟨o, h1⟩)
    (fun b o e nm => F'.keep b o (T.other b o (FG.keep b o e) (fun q => by
      rcases mem_frames hf q with z | z
      · rw [z, nL] at e; cases e
      · exact nm z)))
    (fun b o e _ => by
      obtain ⟨sl', hs'⟩ := T.up (FG.keep b o e)
      exact ⟨sl', F'.keep _ _ hs'⟩)
  refine ⟨_, T₁, ⟨⟨_, es, ep, F'.keep _ _ hs, hLd, hLk, hLf⟩, S₁, by rw [T₁.size]; exact F.above⟩, fun p hp => ⟨(N' p hp).1, fun q => ?_, T₁.none_ _ ?_⟩⟩
  · have := (N' p hp).2.2; rw [q, hs] at this; cases this
  · cases q : gc.get? p.1 with
    | none => rfl
    | some o =>
      obtain ⟨sl', hs'⟩ := T.up (FG.keep _ _ q)
      have := (N' p hp).2.2
      rw [hs'] at this
      cases this

theorem callOK_of {pg : Pg} {f : Addr} {xs : List Str} {body : List Stmt} {scope : Scope} (D : FnAt pg f xs body scope) {lev : Nat} {qt : Bool} {ns : List Int} {vs : List V} {hp : List O} {X : Value → List O → Prop} {Q : V → List O → Prop} (hl : vs.length = xs.length)
    (h : ∀ fx' : Fx, FxAll fx' → fx'.pg = pg → fx'.ns = ns → fx'.lev = lev → (qt = true → fx'.qt = true) → fx'.env.scope = scope → fx'.env.locals = fx'.L → EvSs fx' (fun cls σ' => X cls σ'.hp) body ⟨bindV xs vs (fun _ => none), hp⟩ (fun fl σ' => Q (retV fl) σ'.hp)) :
    CallOK pg (lev + 1) qt ns f vs hp X Q := by
  rintro fx all rfl hlev hns hqt loc W s us R r
  have stB := all.stays R
  refine R.elim fun er gc m news G F N C => ?_
  obtain ⟨BL, DC⟩ := all.ground G
  obtain ⟨name, qual, params, dV, kV, doc, pm, an, cdv, ct, oc, od, osl, ho, hcd, hbind⟩ := D.data
  have X' := all.part.keeps stB
  have hlen : us.length = xs.length := r.length ▸ hl
  refine enterX (news := news) (name := name) (qual := qual) (params := params) (body := body) (scope := scope) BL F N (all.top.nolimit.keeps stB) all.frs all.ffr all.fkd (X' _ _ ho) rfl (codeRec_of X' hcd) (by have := all.depth; omega)
    (BindsTo.of_eq (hbind us hlen)) ?_ D.cells ?_ D.hco D.hgen D.hk
  · intro n x hx
    have hx' : x.1 ∈ xs := (List.of_mem_zip (a := x.1) (b := x.2) hx).1
    rcases D.kinds x.1 hx' with q | q
    · exact .inl q
    · exact .inr ⟨q, cf_some _ _ _ (.inl q)⟩
  intro g L' h₁ tk cells FG F' N' Y B' st lt
  have keysC := cellsAre_keys Y
  have cfa := cf_addr scope.names (L' + 1) (L' + 1) [] (Nat.le_refl _) (by simp) (fun p hp => by cases hp)
  let cf : Addr × Obj → Bool := fun p => fx.env.cells.any fun q => decide (fx.env.cells.lookup q.1 = some p.1)
  let fx' : Fx := { pg := fx.pg, A := fx.A.deeper (envOfC qual scope L' f cdv), env := envOfC qual scope L' f cdv, fenv := envOfC qual scope L' f cdv, outer := fx.fenv :: fx.outer, A₀ := fx.A, base := fx.base, h₀ := g, L := L',
                    ex := fx.ex ++ news.filter cf, s₀ := fx.s₀, sc := fx.sc, ns := fx.ns, lev := lev, mfix := none, qt := fx.qt }
  have exN : ∀ p ∈ fx'.ex, p ∈ news := fun p hp => (List.mem_append.mp hp).elim (C.exs p) fun q => (List.mem_filter.mp q).1
  have cellIn : ∀ x c o, fx.env.cells.lookup x = some c → (c, o) ∈ news → (c, o) ∈ fx'.ex := fun x c o h1 h2 =>
    List.mem_append_right _ (List.mem_filter.mpr ⟨h2, List.any_eq_true.mpr ⟨_, lookup_mem h1, decide_eq_true h1⟩⟩)
  have exAl : ∀ p ∈ fx'.ex, p.1 ∉ W.al := fun p hp => (List.mem_append.mp hp).elim (C.exd p) fun q => by
    obtain ⟨e, _, e1⟩ := List.any_eq_true.mp (List.mem_filter.mp q).2
    exact (C.cel _ _ (of_decide_eq_true e1)).1
  have exTp : ∀ p ∈ fx'.ex, ∀ t ∈ W.tp, p.1 ≠ t.1 := fun p hp t ht => (List.mem_append.mp hp).elim (fun q => C.ext p q t ht) fun q z => by
    obtain ⟨e, _, e1⟩ := List.any_eq_true.mp (List.mem_filter.mp q).2
    obtain ⟨_, o, v, h2, h3⟩ := C.cel _ _ (of_decide_eq_true e1)
    have h4 := C.tps t ht
    rw [← z] at h4
    rw [key_inj C.nd h2 h4] at h3
    cases h3
  have cellAt : ∀ x c, (cellsFrom (L' + 1) scope.names []).lookup x = some c → ∃ o, (c, o) ∈ cells ∧ o.data = .cell (bindC (envOfC qual scope L' f cdv).kindOf (xs.zip us) (fun _ => none) x) := fun x c h => cellsAre_at Y (lookup_mem h)
  have newC : ∀ p ∈ cells, ∀ q ∈ news, q.1 < p.1 := fun p hp q hq => by
    have h1 : p.1 ∈ (cellsFrom (L' + 1) scope.names []).map (·.2) := keysC ▸ List.mem_map_of_mem (f := (·.1)) hp
    obtain ⟨e, he, e1⟩ := List.mem_map.mp h1
    have h2 := cfa.2 e he
    have h3 := lt q hq
    rw [← e1]
    exact Nat.lt_of_lt_of_le h3 (Nat.le_of_succ_le h2)
  have all' : FxAll fx' := {
    ok := ⟨D.hk, all.ok.handled⟩
    locs := .inl rfl
    cex := fun _ x c h p hp q => by
      obtain ⟨o, ho, _⟩ := cellAt x c h
      exact absurd (newC _ ho p (exN p hp)) (by rw [q]; exact Nat.lt_irrefl _)
    cinj := fun x y c h h' => snd_inj cfa.1 (lookup_mem h) (lookup_mem h')
    cdef := fun x h q => by
      have := cf_some (x := x) scope.names (L' + 1) [] (.inl h)
      rw [show (cellsFrom (L' + 1) scope.names []).lookup x = none from q] at this
      cases this
    scr := all.scr
    egl := rfl
    ebu := rfl
    top := all.top
    part := all.part
    below := B'
    dicts := fun b hb => by
      rcases mem_frames all.ffr hb with rfl | z
      · obtain ⟨oL, es, ep, hL, hd, _⟩ := FG.ns
        exact ⟨oL, es, ep, hL, hd⟩
      · obtain ⟨o, es, n, h1, h2⟩ := DC b z
        exact ⟨o, es, n, FG.keep _ _ h1, h2⟩
    frs := by show (fx.A.frames.map _) = _; rw [all.frs]; rfl
    ffr := rfl
    fkd := D.hk
    depth := by show fx.A.depth + 1 + lev < recursionLimit; have := all.depth; omega
    room := by show fx.A.units + 3 + 8 * lev + 100 < cLine; have := all.room; omega
    mfn := fun _ => rfl
    envf := fun _ => rfl }
  have R' : Rep fx' ⟨bindV xs vs (fun _ => none), hp⟩ W { s with heap := h₁, toks := tk } := by
    refine ⟨rest_with er _ _, _, _, cells ++ news, .refl, F', N', ?_, fun p hp => List.mem_append_right _ (exN p hp), exAl, C.aln, C.len, fun i o h => ?_, fun t ht => List.mem_append_right _ (C.tps t ht), fun x v h => ?_, fun x c h => ?_, C.scc, fun _ q => (by cases q), fun p hp t ht => ?_⟩
    · rw [List.map_append, keysC]
      refine List.nodup_append.mpr ⟨cfa.1, C.nd, fun a ha b hb q => ?_⟩
      rw [← keysC] at ha
      obtain ⟨p, hp, rfl⟩ := List.mem_map.mp ha
      obtain ⟨p', hp', rfl⟩ := List.mem_map.mp hb
      exact absurd (newC p hp p' hp') (by rw [q]; exact Nat.lt_irrefl _)
    · obtain ⟨a, ob, h1, h2, h3⟩ := C.obs i o h
      exact ⟨a, ob, h1, List.mem_append_right _ h2, h3⟩
    · obtain ⟨u, h1, h2⟩ := bind_rel (kindOf := (envOfC qual scope L' f cdv).kindOf) r D.kinds (fun _ => none) (fun _ => none) (fun _ => none) (fun y v h => by cases h) x v h
      refine ⟨u, h1, ?_⟩
      rcases h2 with ⟨k1, k2⟩ | ⟨k1, k2⟩
      · exact .loc k1 rfl k2
      · have hs := cf_some (x := x) scope.names (L' + 1) [] (.inl k1)
        obtain ⟨c, hc⟩ := Option.isSome_iff_exists.mp hs
        obtain ⟨o, ho, hd⟩ := cellAt x c hc
        exact .cell (.inl k1) hc (List.mem_append_left _ ho) (by rw [hd, k2])
    · obtain ⟨o, ho, hd⟩ := cellAt x c h
      refine ⟨fun hm => ?_, o, _, List.mem_append_left _ ho, hd⟩
      obtain ⟨o', ho'⟩ := C.al_lt hm
      exact absurd (newC _ ho _ ho') (Nat.lt_irrefl _)
    · exact exTp p hp t ht
  have coreBack : ∀ {σ' : St} {W' : Wd} {m' : Str → Option Value} {news' : List (Addr × Obj)}, W.le W' → Core fx' σ' W' m' news' → Core fx ⟨loc, σ'.hp⟩ W' m news' := by
    intro σ' W' m' news' le' C''
    refine ⟨C''.nd, fun p hp => C''.exs p (List.mem_append_left _ hp), fun p hp => C''.exd p (List.mem_append_left _ hp), C''.aln, C''.len, C''.obs, C''.tps, fun x v h => ?_, fun x c h => ?_, C''.scc, fun m₀ q => C.mfx m₀ q, fun p hp t ht => C''.ext p (List.mem_append_left _ hp) t ht⟩
    · obtain ⟨u, h1, h2⟩ := C.loc x v h
      refine ⟨u, h1.mono le', ?_⟩
      cases h2 with
      | loc a b c => exact .loc a b c
      | comp a b c => exact .comp a b c
      | cell a b c d => exact .cell a b (C''.exs _ (cellIn _ _ _ b c)) d
    · obtain ⟨_, o, v, h2, h3⟩ := C.cel x c h
      have hin := cellIn x c o h h2
      exact ⟨C''.exd _ hin, o, v, C''.exs _ hin, h3⟩
  refine wpAny_mono (h fx' all' rfl hns rfl hqt rfl rfl W _ R') ?_ ?_
  · refine fun fl s' zz => zz.elim fun W' σ' fl' le' R'' r'' q'' => ?_
    refine R''.elim fun er' g' m' news' G' F'' N'' C'' => ?_
    obtain ⟨g₁, T₁, F₁, N₁⟩ := backG all.ffr F DC FG G' F'' N''
    have hv := retV_ok r''
    exact ⟨W', ⟨loc, σ'.hp⟩, retV fl', le', ⟨er', g₁, m, news', G.trans T₁, F₁, N₁, coreBack le' C''⟩, (by cases fl <;> exact hv), rfl, q''⟩
  · rintro u s' ⟨e, cls, k, W', σ', rfl, le', ⟨er', g', m', news', B, c, f⟩, hX⟩
    refine leaveFly (L₁ := fx.L) all'.frs rfl f fun h'' f'' u'' => ?_
    have c' := c.up rfl f''.stays.1 u''
    obtain ⟨oL, es, ep, hLg, hLd, hLk, hLf⟩ := FG.ns
    obtain ⟨sl, hs⟩ := c.turn.up hLg
    obtain ⟨sl', hs'⟩ := c'.fr _ _ hs
    refine ⟨e, cls, .fly, W', ⟨loc, σ'.hp⟩, rfl, le', ⟨rest_heap er' _, gc, m, news', B, ⟨G, DC, F.above, ⟨_, es, ep, hs', hLd, hLk, hLf⟩, fun b o q nm => ?_, fun b o q => ?_, fun p hp => ⟨(c.nw p hp).1, fun q => ?_, ?_⟩, coreBack le' c.core, c.base⟩, f''⟩, rfl, hX⟩
    · have q' := c.turn.other b o (FG.keep b o q) nm
      refine c.gB b o q' fun hm => ?_
      rcases mem_frames (show fx'.fenv.frame = some L' from rfl) hm with z | z
      · rw [z, ground_self c.size] at q'
        cases q'
      · exact nm z
    · obtain ⟨s1, q1⟩ := c.turn.up (FG.keep b o q)
      obtain ⟨s2, q2⟩ := c'.fr _ _ q1
      exact ⟨s2, q2⟩
    · have := (c.nw p hp).2.2
      rw [q, hs] at this
      cases this
    · cases q : gc.get? p.1 with
      | none => rfl
      | some o =>
        obtain ⟨s1, q1⟩ := c.turn.up (FG.keep _ _ q)
        have := (c.nw p hp).2.2
        rw [q1] at this
        cases this

end Mine

set_option autoImplicit false
namespace Mine
open PySem PySem.W PySem.Calls PySem.Spec PyProof.Rows

theorem pushL_pushL (fx : Fx) (qs ps : List (Addr × Obj)) : (fx.pushL qs).pushL ps = fx.pushL (ps ++ qs) := by
  simp only [Fx.pushL, List.append_assoc]
theorem ExOk.join {fx : Fx} {qs ps : List (Addr × Obj)} (a : ExOk fx qs) (b : ExOk (fx.pushL qs) ps) : ExOk fx (ps ++ qs) where
  nd := by
    rw [List.map_append]
    refine List.nodup_append.mpr ⟨b.nd, a.nd, fun x hx y hy e => ?_⟩
    obtain ⟨p, hp, rfl⟩ := List.mem_map.mp hy
    exact b.dis p (List.mem_append_left _ hp) (e ▸ hx)
  dis := fun p hp q => by
    rw [List.map_append] at q
    exact (List.mem_append.mp q).elim (b.dis p (List.mem_append_right _ hp)) (a.dis p hp)
  cel := fun x c h q => by
    rw [List.map_append] at q
    exact (List.mem_append.mp q).elim (b.cel x c h) (a.cel x c h)
  loc := fun q => by
    rw [List.map_append] at q
    exact (List.mem_append.mp q).elim b.loc a.loc
theorem ExOk.keys {fx : Fx} {ps ps' : List (Addr × Obj)} (a : ExOk fx ps) (h : ps'.map (·.1) = ps.map (·.1)) : ExOk fx ps' := ⟨h ▸ a.nd, h ▸ a.dis, h ▸ a.cel, h ▸ a.loc⟩
theorem ExOk.left {fx : Fx} {qs qs' ps : List (Addr × Obj)} (h : qs'.map (·.1) = qs.map (·.1)) (b : ExOk (fx.pushL qs) ps) : ExOk (fx.pushL qs') ps where
  nd := b.nd
  dis := fun p hp q => by
    rcases List.mem_append.mp hp with hp | hp
    · have : p.1 ∈ qs.map (·.1) := h ▸ List.mem_map_of_mem (f := (·.1)) hp
      obtain ⟨o, ho⟩ := mem_keys this
      exact b.dis _ (List.mem_append_left _ ho) q
    · exact b.dis p (List.mem_append_right _ hp) q
  cel := b.cel
  loc := b.loc

def NsObj (o : Obj) : Prop := ∃ es ep, o.data = .dict es ep ∧ StrKeys es
/-- the names that a comprehension has bound -/
def CLR (W : Wd) (l : Str → Option V) (o : Obj) : Prop := ∀ y v, l y = some v → ∃ u, VR W v u ∧ NsSays o y u
/-- a comprehension's scope within its frame -/
structure CompOk (env : Env) (scope : Scope) : Prop where
  kind : scope.kind = .function
  nocell : ∀ y ∈ scope.names, y.2 ≠ .cell
  names : ∀ y ∈ scope.names, y.2 = .local → scope.names.lookup y.1 = some .local
  frees : ∀ y ∈ scope.names, y.2 = .free → scope.names.lookup y.1 = some .free
  free : ∀ n, scope.names.lookup n = some .free → env.kindOf n = some .cell

def clOf (env : Env) : List (Str × NameKind) → List (Str × Addr) → List (Str × Addr)
  | [], acc => acc
  | (n, k) :: r, acc => if k == .free then clOf env r ((n, (env.cells.lookup n).getD 0) :: acc) else clOf env r acc

theorem clOf_prop {env : Env} : ∀ (names : List (Str × NameKind)) (acc : List (Str × Addr)), (∀ n, (n, NameKind.free) ∈ names → env.cells.lookup n ≠ none) → (∀ p ∈ acc, env.cells.lookup p.1 = some p.2) →
    ∀ p ∈ clOf env names acc, env.cells.lookup p.1 = some p.2
  | [], _, _, h => h
  | (n, k) :: r, acc, hn, h => by
    unfold clOf
    split
    · rename_i hk
      have hk' : k = .free := by simpa using hk
      subst hk'
      refine clOf_prop r _ (fun m hm => hn m (.tail _ hm)) fun p hp => ?_
      rcases List.mem_cons.mp hp with rfl | hp
      · have := hn n (.head _)
        cases q : env.cells.lookup n with
        | none => exact absurd q this
        | some c => simp
      · exact h p hp
    · exact clOf_prop r acc (fun m hm => hn m (.tail _ hm)) h

theorem clOf_some {env : Env} {x : Str} : ∀ (names : List (Str × NameKind)) (acc : List (Str × Addr)), (x, NameKind.free) ∈ names ∨ (acc.lookup x).isSome = true → ((clOf env names acc).lookup x).isSome = true
  | [], _, h => h.elim (fun e => by cases e) id
  | (n, k) :: r, acc, h => by
    unfold clOf
    split
    · rename_i hk
      refine clOf_some r _ ?_
      by_cases hy : (x == n) = true
      · exact .inr (by rw [List.lookup_cons, hy]; rfl)
      · refine h.imp (fun e => ?_) fun e => ?_
        · rcases List.mem_cons.mp e with e | e
          · cases e; simp at hy
          · exact e
        · rw [List.lookup_cons]; simpa only [hy] using e
    · rename_i hk
      refine clOf_some r acc (h.imp (fun e => ?_) id)
      rcases List.mem_cons.mp e with e | e
      · cases e; exact absurd rfl hk
      · exact e

theorem closure_ok {env : Env} {scope : Scope} (h : ∀ n, (n, NameKind.free) ∈ scope.names → env.cells.lookup n ≠ none) : closureFor scope env = pure (clOf env scope.names []) := by
  unfold closureFor
  have key : ∀ (names : List (Str × NameKind)) (acc : List (Str × Addr)), (∀ n, (n, NameKind.free) ∈ names → env.cells.lookup n ≠ none) →
      (forIn names acc fun (x : Str × NameKind) (r : List (Str × Addr)) => if (x.2 == NameKind.free) = true then (do let c ← cellOf env x.1; pure (ForInStep.yield ((x.1, c) :: r)) : Sem (ForInStep (List (Str × Addr)))) else pure (ForInStep.yield r)) = (pure (clOf env names acc) : Sem _) := by
    intro names
    induction names with
    | nil => intro acc _; rfl
    | cons p r ih =>
      obtain ⟨n, k⟩ := p
      intro acc hn
      rw [List.forIn_cons]
      unfold clOf
      by_cases hk : (k == NameKind.free) = true
      · have hk' : k = .free := by simpa using hk
        subst hk'
        have hc := hn n (.head _)
        cases q : env.cells.lookup n with
        | none => exact absurd q hc
        | some c =>
          have e1 : cellOf env n = pure c := by unfold cellOf; rw [q]
          simp only [e1, if_true, pure_bind, beq_self_eq_true, Option.getD_some]
          exact ih _ fun m hm => hn m (.tail _ hm)
      · simp only [hk, if_false, pure_bind, Bool.false_eq_true]
        exact ih _ fun m hm => hn m (.tail _ hm)
  have := key scope.names [] h
  simpa using this

def compLoc (scope : Scope) (loc : Str → Option V) : Str → Option V := fun y => if scope.names.lookup y = some .free then loc y else none

theorem relabel_lookup (scope : Scope) (env : Env) (y : Str) : (relabel scope env).names.lookup y = (scope.names.lookup y).map fun k => if (k == .free && env.scope.kind == .function && env.kindOf y == some .cell) then .cell else k := by
  unfold relabel
  dsimp only
  induction scope.names with
  | nil => rfl
  | cons p r ih =>
    obtain ⟨n, k⟩ := p
    simp only [List.map_cons]
    by_cases hy : (y == n) = true
    · have : y = n := by simpa using hy
      subst this
      by_cases hc : (k == NameKind.free && env.scope.kind == .function && env.kindOf y == some .cell) = true
      · rw [if_pos hc]; simp only [List.lookup_cons, beq_self_eq_true, Option.map_some, hc, if_true]
      · rw [if_neg hc]; simp only [List.lookup_cons, beq_self_eq_true, Option.map_some, hc]; simp
    · have hy' : (y == n) = false := by simpa using hy
      by_cases hc : (k == NameKind.free && env.scope.kind == .function && env.kindOf n == some .cell) = true
      · rw [if_pos hc]; simp only [List.lookup_cons, hy']; exact ih
      · rw [if_neg hc]; simp only [List.lookup_cons, hy']; exact ih

section
variable {fx : Fx} {X : XP} {σ : St} {W : Wd} {s : Shared}

/-- a comprehension's own frame -/
abbrev fxC (fx : Fx) (scope : Scope) (C : Addr) (ex : List (Addr × Obj)) (m : Str → Option Value) : Fx :=
  { fx with env := compEnvC scope (clOf fx.env scope.names []) C fx.env, ex := ex, mfix := some m }

theorem cells_in {env : Env} {scope : Scope} (h : ∀ n, (n, NameKind.free) ∈ scope.names → env.cells.lookup n ≠ none) {x : Str} {c : Addr} (e : (clOf env scope.names []).lookup x = some c) : env.cells.lookup x = some c :=
  clOf_prop scope.names [] h (fun p hp => by cases hp) _ (lookup_mem e)

theorem fxC_all (all : FxAll fx) {scope : Scope} (co : CompOk fx.env scope) {C : Addr} {ex : List (Addr × Obj)} {m : Str → Option Value} {oC : Obj} (hin : (C, oC) ∈ ex) (hCL : C ≠ fx.L) : FxAll (fxC fx scope C ex m) := by
  have hfree : ∀ n, (n, NameKind.free) ∈ scope.names → fx.env.cells.lookup n ≠ none := fun n hn => all.cdef n (co.free n (co.frees _ hn rfl))
  exact {
    ok := ⟨co.kind, all.ok.handled⟩
    locs := .inr ⟨oC, hin⟩
    cex := fun q => absurd q hCL
    cinj := fun x y c h h' => all.cinj x y c (cells_in hfree h) (cells_in hfree h')
    cdef := fun x h q => by
      have h' : (relabel scope fx.env).names.lookup x = some .cell := h
      rw [relabel_lookup] at h'
      cases e : scope.names.lookup x with
      | none => rw [e] at h'; cases h'
      | some k =>
        rw [e, Option.map_some] at h'
        have hm := lookup_mem e
        have hs := clOf_some (env := fx.env) (x := x) scope.names [] (.inl (by
          split at h'
          · rename_i hc
            have : k = .free := by simp at hc; exact hc.1.1
            rw [← this]; exact hm
          · exact absurd (Option.some.inj h') (co.nocell _ hm)))
        rw [show (clOf fx.env scope.names []).lookup x = none from q] at hs
        cases hs
    scr := all.scr
    egl := all.egl
    ebu := all.ebu
    top := all.top
    part := all.part
    below := all.below
    dicts := all.dicts
    frs := all.frs
    ffr := all.ffr
    fkd := all.fkd
    depth := all.depth
    room := all.room
    mfn := fun q => absurd q hCL
    envf := fun q => absurd q hCL }

/-- into a comprehension's frame and back -/
theorem toC (all : FxAll fx) {scope : Scope} (co : CompOk fx.env scope) {C : Addr} {oC : Obj} {qs : List (Addr × Obj)} (hin : (C, oC) ∈ qs) (R : Rep (fx.pushL qs) σ W s) {l : Str → Option V} (hl : CLR W l oC)
    (hloc : ∀ y v, l y = some v → scope.names.lookup y = some .local) {l' : Str → Option V} (hl' : ∀ y v, l' y = some v → l y = some v ∨ compLoc scope σ.loc y = some v) :
    ∃ fc : Fx, FxAll fc ∧ fc.pg = fx.pg ∧ fc.ns = fx.ns ∧ fc.lev = fx.lev ∧ fc.env = compEnvC scope (clOf fx.env scope.names []) C fx.env ∧ fc.A = fx.A ∧ fc.qt = fx.qt ∧ Rep fc ⟨l', σ.hp⟩ W s ∧
      (∀ σ' W' s', W.le W' → Rep fc σ' W' s' → Rep (fx.pushL qs) ⟨σ.loc, σ'.hp⟩ W' s') := by
  have hfree : ∀ n, (n, NameKind.free) ∈ scope.names → fx.env.cells.lookup n ≠ none := fun n hn => all.cdef n (co.free n (co.frees _ hn rfl))
  refine R.elim fun e g m news G F N Co => ?_
  have hCL : C ≠ fx.L := (N _ (Co.exs _ (List.mem_append_left _ hin))).2.1
  let cf : Addr × Obj → Bool := fun p => fx.env.cells.any fun q => decide (fx.env.cells.lookup q.1 = some p.1)
  have cellIn : ∀ x c o, fx.env.cells.lookup x = some c → (c, o) ∈ news → (c, o) ∈ news.filter cf := fun x c o h1 h2 =>
    List.mem_filter.mpr ⟨h2, List.any_eq_true.mpr ⟨_, lookup_mem h1, decide_eq_true h1⟩⟩
  refine ⟨fxC fx scope C (qs ++ fx.ex ++ news.filter cf) m, fxC_all all co (oC := oC) (List.mem_append_left _ (List.mem_append_left _ hin)) hCL, rfl, rfl, rfl, rfl, rfl, rfl, ?_, ?_⟩
  · refine ⟨e, g, m, news, G, F, N, Co.nd, fun p hp => ?_, fun p hp => ?_, Co.aln, Co.len, Co.obs, Co.tps, fun x v h => ?_, fun x c h => ?_, Co.scc, fun m₀ q => Option.some.inj q, fun p hp t ht => ?_⟩
    · exact (List.mem_append.mp hp).elim (Co.exs p) fun q => (List.mem_filter.mp q).1
    · refine (List.mem_append.mp hp).elim (Co.exd p) fun q => ?_
      obtain ⟨e, _, e1⟩ := List.any_eq_true.mp (List.mem_filter.mp q).2
      exact (Co.cel _ _ (of_decide_eq_true e1)).1
    · rcases hl' x v h with h | h
      · obtain ⟨u, h1, h2⟩ := hl x v h
        exact ⟨u, h1, .comp (lookup_relabel_local (hloc x v h)) (List.mem_append_left _ (List.mem_append_left _ hin)) h2⟩
      · unfold compLoc at h
        split at h
        · rename_i hf
          obtain ⟨u, h1, h2⟩ := Co.loc x v h
          refine ⟨u, h1, ?_⟩
          have hc := co.free x hf
          cases h2 with
          | loc a b c => rw [show fx.env.kindOf x = some .local from a] at hc; cases hc
          | comp a b c => rw [show fx.env.kindOf x = some .local from a] at hc; cases hc
          | @cell c o a b d f =>
            have hs := clOf_some (env := fx.env) (x := x) scope.names [] (.inl (lookup_mem hf))
            obtain ⟨c', hc'⟩ := Option.isSome_iff_exists.mp hs
            have := cells_in hfree hc'
            rw [show fx.env.cells.lookup x = some c from b] at this
            cases this
            refine .cell (.inl ?_) hc' d f
            show (relabel scope fx.env).names.lookup x = some .cell
            rw [relabel_lookup, hf]
            simp [all.ok.kind, hc]
        · cases h
    · exact Co.cel x c (cells_in hfree h)
    · refine (List.mem_append.mp hp).elim (fun q => Co.ext p q t ht) fun q z => ?_
      obtain ⟨e, _, e1⟩ := List.any_eq_true.mp (List.mem_filter.mp q).2
      obtain ⟨_, o, v, h2, h3⟩ := Co.cel _ _ (of_decide_eq_true e1)
      have h4 := Co.tps t ht
      rw [← z] at h4
      rw [key_inj Co.nd h2 h4] at h3
      cases h3
  · intro σ' W' s' le R'
    refine R'.elim fun e' g' m' news' G' F' N' Co' => ?_
    obtain rfl : m' = m := Co'.mfx m rfl
    refine ⟨e', g', m', news', G', F', N', Co'.nd, fun p hp => Co'.exs p (List.mem_append_left _ hp), fun p hp => Co'.exd p (List.mem_append_left _ hp), Co'.aln, Co'.len, Co'.obs, Co'.tps, fun x v h => ?_, fun x c h => ?_, Co'.scc, Co.mfx, fun p hp t ht => Co'.ext p (List.mem_append_left _ hp) t ht⟩
    · obtain ⟨u, h1, h2⟩ := Co.loc x v h
      refine ⟨u, h1.mono le, ?_⟩
      cases h2 with
      | loc a b c => exact .loc a b c
      | comp a b c => exact .comp a b c
      | cell a b c d => exact .cell a b (Co'.exs _ (List.mem_append_right _ (cellIn _ _ _ b c))) d
    · obtain ⟨_, o, v, h2, h3⟩ := Co.cel x c h
      have hin' : (c, o) ∈ qs ++ fx.ex ++ news.filter cf := List.mem_append_right _ (cellIn x c o h h2)
      exact ⟨Co'.exd _ hin', o, v, Co'.exs _ hin', h3⟩

/-- a comprehension's variable is stored -/
theorem storeC {scope : Scope} (hkd : scope.kind = .function) {C : Addr} {cl : List (Str × Addr)} {oC : Obj} {ps : List (Addr × Obj)} (hps : ∀ p ∈ ps, ∀ xs, p.2 ≠ tupObj xs) (ok : ExOk fx (ps ++ [(C, oC)])) (R : Rep (fx.pushL (ps ++ [(C, oC)])) σ W s) (ho : NsObj oC)
    {l : Str → Option V} (hl : CLR W l oC) {x : Str} (hx : scope.names.lookup x = some .local) {v : V} {u : Value} (r : VR W v u) {Q : Unit → Shared → Prop} {E : Value → Shared → Prop}
    (k : ∀ oC' h' tk, NsObj oC' → CLR W (setN l x v) oC' → Rep (fx.pushL (ps ++ [(C, oC')])) σ W { s with heap := h', toks := tk } → Q () { s with heap := h', toks := tk }) :
    wpAny fx.M fx.A (storeName (compEnvC scope cl C fx.env) x u) Q E s := by
  obtain ⟨es, ep, hd, hk⟩ := ho
  have hg := R.exPop (p := (C, oC)) (List.mem_append_right _ (List.mem_singleton.mpr rfl))
  refine wpAny_storeName_local (m := nsFind es) (lookup_relabel_local hx) ⟨oC, es, ep, hg, hd, hk, fun _ => rfl⟩ (fun h' hn hs => ?_) (by show (scope.kind == .class || (scope.kind == .module && _)) = false; rw [hkd]; rfl)
  obtain ⟨o', es', ep', hg', hd', hk', hf'⟩ := hn
  refine k o' h' (s.toks + 1) ⟨es', ep', hd', hk'⟩ (fun y w h => ?_) ?_
  · unfold setN at h
    split at h
    · rename_i q
      subst q
      cases h
      exact ⟨u, r, es', ep', hd', hk', by rw [hf']; simp⟩
    · rename_i q
      obtain ⟨u', h1, es₂, ep₂, h2, h3, h4⟩ := hl y w h
      rw [hd] at h2
      cases h2
      exact ⟨u', h1, es', ep', hd', hk', by rw [hf']; simp [q, h4]⟩
  · refine R.exSwap ok (ps ++ [(C, o')]) (by simp) _ (fun b o hb e => (hs.2 b fun q => hb ?_).trans e) fun p hp => ?_
    · rw [q]
      exact List.mem_map.mpr ⟨(C, oC), List.mem_append_right _ (List.mem_singleton.mpr rfl), rfl⟩
    · rcases List.mem_append.mp hp with hp | hp
      · have := R.exPop (p := p) (List.mem_append_left _ hp)
        refine (hs.2 p.1 fun q => ?_).trans this
        have nd := ok.nd
        rw [List.map_append] at nd
        exact (List.nodup_append.mp nd).2.2 p.1 (List.mem_map_of_mem (f := (·.1)) hp) C (by simp) q
      · rw [List.mem_singleton.mp hp]; exact hg'

def nmV (p : Expr × V) : Option (Str × V) := match p.1 with | .Name x _ => some (x, p.2) | _ => none
/-- the targets that a comprehension binds: a name, or a tuple of names -/
def tgtV (t : Expr) (v : V) : Option (List (Str × V)) :=
  match t with
  | .Name x _ => some [(x, v)]
  | .Tuple es _ _ => match v with
    | .tup vs => if es.length = vs.length then (es.zip vs).mapM nmV
      else none
    | _ => none
  | _ => none

def setAll (l : Str → Option V) : List (Str × V) → Str → Option V
  | [] => l
  | (x, v) :: r => setAll (setN l x v) r

theorem asgInOrderC {scope : Scope} (hkd : scope.kind = .function) {C : Addr} {cl : List (Str × Addr)} {ps : List (Addr × Obj)} (hps : ∀ p ∈ ps, ∀ xs, p.2 ≠ tupObj xs) :
    ∀ (es : List Expr) (vs : List V) (bs : List (Str × V)), es.length = vs.length → ((es.zip vs).mapM nmV) = some bs → (∀ b ∈ bs, scope.names.lookup b.1 = some .local) →
    ∀ (us : List Value) (oC : Obj) (W : Wd) (s : Shared) (l : Str → Option V) (Q : Unit → Shared → Prop) (E : Value → Shared → Prop), VRs W vs us → ExOk fx (ps ++ [(C, oC)]) → Rep (fx.pushL (ps ++ [(C, oC)])) σ W s → NsObj oC → CLR W l oC →
    (∀ oC' h' tk, NsObj oC' → CLR W (setAll l bs) oC' → Rep (fx.pushL (ps ++ [(C, oC')])) σ W { s with heap := h', toks := tk } → Q () { s with heap := h', toks := tk }) →
    wpAny fx.M fx.A (assignInOrder ((assignEach es (compEnvC scope cl C fx.env)).map (·.2)) us) Q E s
  | [], vs, bs, hlen, hb, hn, us, oC, W, s, l, Q, E, r, ok, R, ho, hl, k => by
    simp at hb
    subst hb
    exact assignInOrder_nil (k oC s.heap s.toks ho hl R)
  | e :: es, [], bs, hlen, hb, hn, us, oC, W, s, l, Q, E, r, ok, R, ho, hl, k => by simp at hlen
  | e :: es, v :: vs, bs, hlen, hb, hn, us, oC, W, s, l, Q, E, r, ok, R, ho, hl, k => by
    cases r with
    | @cons _ _ u us r rs =>
      rw [List.zip_cons_cons, List.mapM_cons] at hb
      cases e with
      | Name x p =>
        simp only [nmV, bind_pure_comp, Option.bind_eq_bind, Option.bind_some] at hb
        cases hr : ((es.zip vs).mapM nmV) with
        | none => rw [hr] at hb; simp [nmV] at hb
        | some bs' =>
          rw [hr] at hb
          simp at hb
          subst hb
          refine assignInOrder_cons ?_
          refine wpAny_bind (wpAny_standAt (wpAny_bindName (storeC hkd hps ok R ho hl (hn _ (.head _)) r fun oC' h' tk ho' hl' R' => ?_)))
          exact asgInOrderC hkd hps es vs bs' (by simpa using hlen) hr (fun b hb => hn b (.tail _ hb)) us oC' W _ _ Q E rs (ok.keys (by simp)) R' ho' hl' fun oC'' h'' tk'' a b c => k oC'' h'' tk'' a b c
      | _ => simp [nmV] at hb

theorem asgC (all : FxAll fx) (hq : fx.qt = true) {scope : Scope} (hkd : scope.kind = .function) {C : Addr} {cl : List (Str × Addr)} {oC : Obj} {ps : List (Addr × Obj)} (hps : ∀ p ∈ ps, ∀ xs, p.2 ≠ tupObj xs) (ok : ExOk fx (ps ++ [(C, oC)])) (R : Rep (fx.pushL (ps ++ [(C, oC)])) σ W s) (ho : NsObj oC)
    {t : Expr} {v : V} {u : Value} {bs : List (Str × V)} (ht : tgtV t v = some bs) (hn : ∀ b ∈ bs, scope.names.lookup b.1 = some .local) (r : VR W v u) {Q : Unit → Shared → Prop} {E : Value → Shared → Prop}
    (k : ∀ oC' h' tk, NsObj oC' → CLR W (setAll (fun _ => none) bs) oC' → Rep (fx.pushL (ps ++ [(C, oC')])) σ W { s with heap := h', toks := tk } → Q () { s with heap := h', toks := tk }) :
    wpAny fx.M fx.A (assign t (compEnvC scope cl C fx.env) u) Q E s := by
  unfold tgtV at ht
  split at ht
  · cases ht
    exact wpAny_bind (wpAny_standAt (wpAny_bindName (storeC hkd hps ok R ho (l := fun _ => none) (fun _ _ h => by cases h) (hn _ (.head _)) r k)))
  · rename_i es n p
    split at ht
    · rename_i vs
      split at ht
      · rename_i hlen
        obtain ⟨a, xs, rfl, h2, h3⟩ := R.tup_at r
        have hall : ∀ (es : List Expr) (vs : List V) (bs : List (Str × V)), es.length = vs.length → ((es.zip vs).mapM nmV) = some bs → ∀ env, (assignEach es env).length = es.length ∧ (assignEach es env).findIdx? (·.1) = none := by
          intro es
          induction es with
          | nil => intro vs bs _ _ env; exact ⟨rfl, rfl⟩
          | cons e es ih =>
            intro vs bs hl hb env
            cases vs with
            | nil => simp at hl
            | cons v vs =>
              rw [List.zip_cons_cons, List.mapM_cons] at hb
              cases e with
              | Name x p =>
                cases hr : ((es.zip vs).mapM nmV) with
                | none => rw [hr] at hb; simp [nmV] at hb
                | some bs' =>
                  obtain ⟨i1, i2⟩ := ih vs bs' (by simpa using hl) hr env
                  have e1 : assignEach (Expr.Name x p :: es) env = (false, assign (.Name x p) env) :: assignEach es env := rfl
                  rw [e1]
                  refine ⟨by simp [i1], ?_⟩
                  rw [List.findIdx?_cons, i2]
                  rfl
              | _ => simp [nmV] at hb
        obtain ⟨q1, q2⟩ := hall es vs bs hlen ht (compEnvC scope cl C fx.env)
        refine assign_Tuple_tuple (all.ok.handled hq) (tupObj_isTup h2) (by rw [q1, hlen, h3.length]; simp) q2 fun h' he => ?_
        have R' := R.keep (h' := h') s.toks fun b o e => he b o (Nat.ne_of_lt (Heap.lt_size e)) e
        exact asgInOrderC hkd hps es vs bs hlen ht hn _ oC W _ (fun _ => none) Q E (by simpa using h3) ok R' ho (fun _ _ h => by cases h) fun oC' h'' tk a b c => k oC' h'' tk a b c
      · cases ht
    · cases ht
  · cases ht

def EvTs (fx : Fx) (X : XP) (ifs : List Expr) (σ : St) (Q : Bool → St → Prop) : Prop := ∀ W s, Rep fx σ W s → wpAny fx.M fx.A (forIn ifs true fun c r => if r = true then do let ok ← isTrue c fx.env (eval c fx.env); pure (ForInStep.yield ok) else pure (ForInStep.yield r)) (PB fx W Q) (PX fx W X) s
theorem evTs_nil {Q : Bool → St → Prop} (h : Q true σ) : EvTs fx X [] σ Q := fun _ _ R => wpAny_tests_nil (.here R h)
theorem evTs_one {c : Expr} {Q : Bool → St → Prop} (h : EvB fx X c σ Q) : EvTs fx X [c] σ Q := fun W s R => wpAny_tests_one (h W s R)

theorem compLoop_any {prog : Program} {w : World} {A : Around} {R : Result → Shared → Prop} {s : Shared} {elt target iter : Expr} {ifs : List Expr} {scope : Scope} {pos : Pos} {it acc : Value} {env : Env} (I : Nat → Shared → Prop)
    (turn : ∀ n s, I n s → wpAny (model prog w) A (pyNext it) (fun r s₁ => match r with
      | none => R (.ok .next) s₁
      | some v => wpAny (model prog w) A (letOwnedTupleGo target it v) (fun _ s₁' => wpAny (model prog w) A (assign target env v) (fun _ s₂ =>
          wpAny (model prog w) A (forIn ifs true fun c r => if r = true then do let ok ← isTrue c env (eval c env); pure (ForInStep.yield ok) else pure (ForInStep.yield r)) (fun ok s₃ =>
            if ok = true then wpAny (model prog w) A (eval elt env) (fun x s₄ =>
              wpAny (model prog w) A (call (.builtin "list.append") [acc, x]) (fun _ s₅ => ∃ m, m < n ∧ I m s₅) (notedBy (model prog w) A env fun e s' => R (.error e) s') s₄) (notedBy (model prog w) A env fun e s' => R (.error e) s') s₃
            else ∃ m, m < n ∧ I m s₃) (notedBy (model prog w) A env fun e s' => R (.error e) s') s₂) (notedBy (model prog w) A env fun e s' => R (.error e) s') s₁') (notedBy (model prog w) A env fun e s' => R (.error e) s') s₁) (notedBy (model prog w) A env fun e s' => R (.error e) s') s)
    (n : Nat) (h : I n s) :
    codeAny (model prog w) A (.compLoop (.ListComp elt [⟨target, iter, ifs, 0⟩] scope pos) 0 it acc env) R s := by
  refine codeAny_loop rfl I (fun n s hI => ?_) n h
  show wpAny _ A ((compTurn (.ListComp elt [⟨target, iter, ifs, 0⟩] scope pos) 0 it acc env).onRaise (fun x => do noteFrame x env; theTreesLotGoes x)) _ _ s
  refine wpAny_noted ?_
  rw [compTurn_list]
  refine wpAny_bind (wpAny_standAt (wpAny_bind (wpAny_mono (turn n s hI) (fun r s₁ h₁ => ?_) fun _ _ h' => h')))
  cases r with
  | none => exact wpAny_pure h₁
  | some v =>
    refine wpAny_bind (wpAny_mono h₁ (fun _ s₁' h₁' => ?_) fun _ _ h' => h')
    refine wpAny_bind (wpAny_mono h₁' (fun _ s₂ h₂ => wpAny_bind (wpAny_mono h₂ (fun ok s₃ h₃ => ?_) fun _ _ h' => h')) fun _ _ h' => h')
    cases ok with
    | false => exact wpAny_pure ⟨rfl, h₃⟩
    | true =>
      exact wpAny_bind (wpAny_bind (wpAny_mono h₃ (fun x s₄ h₄ => wpAny_bind (wpAny_mono h₄ (fun _ s₅ h₅ => wpAny_pure (wpAny_pure ⟨rfl, h₅⟩)) fun _ _ h' => h')) fun _ _ h' => h'))

/-- what a comprehension's turns do -/
def CompJ (fx : Fx) (elt t : Expr) (ifs : List Expr) (scope : Scope) (its : List V) (need : St → Prop) (σ₁ : St) (J : Nat → List O → Prop) : Prop :=
  J 0 (σ₁.hp ++ [.list []]) ∧ (∀ k hp, J k hp → need ⟨σ₁.loc, hp⟩) ∧ its.length ≤ sizeLine ∧
  ∀ (k : Nat) hp (hk : k < its.length), J k hp → ∃ bs, tgtV t its[k] = some bs ∧ (∀ b ∈ bs, scope.names.lookup b.1 = some .local) ∧
    ∀ fc : Fx, FxAll fc → fc.pg = fx.pg → fc.ns = fx.ns → fc.lev = fx.lev → fc.qt = fx.qt → fc.env.scope = relabel scope fx.env →
      EvTs fc X0 ifs ⟨setAll (compLoc scope σ₁.loc) bs, hp⟩ (fun b σ₂ => if b then EvE fc X0 elt σ₂ (fun v σ₃ => ∃ acc, σ₃.hp[σ₁.hp.length]? = some (.list acc) ∧ acc.length ≤ k ∧ J (k + 1) (σ₃.hp.set σ₁.hp.length (.list (acc ++ [v])))) else J (k + 1) σ₂.hp)

theorem setAll_or (a : Str → Option V) : ∀ (bs : List (Str × V)) (b : Str → Option V), setAll (fun y => (b y).or (a y)) bs = fun y => (setAll b bs y).or (a y)
  | [], _ => rfl
  | (x, w) :: r, b => by
    have e : setN (fun y => (b y).or (a y)) x w = fun y => ((setN b x w) y).or (a y) := by
      funext y
      unfold setN
      split <;> simp
    show setAll (setN (fun y => (b y).or (a y)) x w) r = _
    rw [e]
    exact setAll_or a r (setN b x w)
theorem setAll_split {a : Str → Option V} {bs : List (Str × V)} {y : Str} {v : V} (h : setAll a bs y = some v) : setAll (fun _ => none) bs y = some v ∨ a y = some v := by
  have e := congrFun (setAll_or a bs fun _ => none) y
  simp only [Option.none_or] at e
  rw [e] at h
  cases q : setAll (fun _ => none) bs y with
  | none => rw [q, Option.none_or] at h; exact .inr h
  | some w => rw [q] at h; simp at h; subst h; exact .inl rfl
theorem setAll_mem : ∀ {bs : List (Str × V)} {l : Str → Option V} {y : Str} {v : V}, setAll l bs y = some v → (∃ b ∈ bs, b.1 = y) ∨ l y = some v
  | [], _, _, _, h => .inr h
  | (x, w) :: r, l, y, v, h => by
    rcases setAll_mem (bs := r) h with ⟨b, hb, e⟩ | q
    · exact .inl ⟨b, .tail _ hb, e⟩
    · unfold setN at q
      split at q
      · rename_i e
        exact .inl ⟨_, .head _, e.symm⟩
      · exact .inr q

theorem comp_core (all : FxAll fx) (hq : fx.qt = true) {elt t iter : Expr} {ifs : List Expr} {scope : Scope} {pos pos' : Pos} {use : Option (Value → Sem Unit)} (co : CompOk fx.env scope) (hs : ∀ x, foldedSetIterable iter fx.env x = pure x) {Qr : Value → Shared → Prop}
    {P : List V → (St → Prop) → St → Prop} (hI : IterT fx X iter σ P) (R : Rep fx σ W s)
    (body : ∀ its need σ₁, P its need σ₁ → ∃ J, CompJ fx elt t ifs scope its need σ₁ J ∧
      ∀ C oC D hp W' s', ExOk fx [(C, oC)] → NsObj oC → W.le W' → Rep (fx.pushL [(C, oC)]) ⟨σ₁.loc, hp⟩ W' s' → W'.al[σ₁.hp.length]? = some D → J its.length hp → compPost fx.M fx.A (PX fx W X) use Qr (.ref D) C (.ok .next) s') :
    wpAny fx.M fx.A (comprehension (.ListComp elt [⟨t, iter, ifs, 0⟩] scope pos) scope fx.env pos' (newList []) false (eval iter fx.env) use) Qr (PX fx W X) s := by
  have hfree : ∀ n, (n, NameKind.free) ∈ scope.names → fx.env.cells.lookup n ≠ none := fun n hn => all.cdef n (co.free n (co.frees _ hn rfl))
  refine wpAny_comprehension_free (g := ⟨t, iter, ifs, 0⟩) (gs := []) rfl hs (closure_ok hfree) co.kind co.names (wpAny_mono (hI W s R) (fun xv s₁ h₁ => wpAny_mono h₁ (fun it s₂ h₂ => ?_) fun _ _ e => e) fun _ _ e => e)
  obtain ⟨Io, st, ps, W₁, σ₁, its, need, rfl, le₁, S, hst, hex, R₁, hP⟩ := h₂
  obtain ⟨J, ⟨h0, hneed, hsz, turn⟩, fin⟩ := body its need σ₁ hP
  -- the list
  obtain ⟨W₂, le₂, hal₂, R₂⟩ := R₁.alloc (o := .list []) (ob := listObj [] 0) s₂.toks rfl fun W' _ => .list 0 .nil
  refine wpAny_newObj_type ?_ (by size_fits)
  have hn₁ : W₁.al.length = σ₁.hp.length := by obtain ⟨_, _, _, _, _, _, _, c⟩ := R₁; exact c.len
  have hD : W₂.al[σ₁.hp.length]? = some s₂.heap.objs.size := by rw [hal₂, ← hn₁]; simp
  -- the names
  refine wpAny_newFunctionEnv co.nocell (by intro y hy; simp at hy) (fun h₃ hns₃ hsb₃ => ?_) co.kind
  dsimp only at hns₃ hsb₃ ⊢
  generalize hH : s₂.heap.push { cls := .type "list", dict := none, data := .seq ([] : List Value).toArray } = H2 at hns₃ hsb₃ R₂ ⊢
  obtain ⟨oC, es, ep, hgC, hdC, hkC, hfC⟩ := hns₃
  have old : ∀ b o, H2.get? b = some o → h₃.get? b = some o := fun b o e => hsb₃.extBut b o (Nat.ne_of_lt (Heap.lt_size e)) (Heap.get?_push_of_some _ e)
  obtain ⟨R₃, ok₃⟩ := Rep.exPush (s := { s₂ with heap := H2, toks := s₂.toks }) R₂ [(H2.objs.size, oC)] (by simp) s₂.toks old (fun p hp => by rw [List.mem_singleton.mp hp]; exact Nat.le_refl _)
    (fun p hp => by rw [List.mem_singleton.mp hp]; exact hgC) (R₂.locals_at (all.pushL hex))
  -- the frame's own things in the order that the loop wants
  have okC : ExOk fx [(H2.objs.size, oC)] := ⟨by simp, fun p hp => ok₃.dis p (List.mem_append_right _ hp), ok₃.cel, ok₃.loc⟩
  have okP : ExOk (fx.pushL [(H2.objs.size, oC)]) ps := ⟨hex.nd, fun p hp q => by
    rcases List.mem_append.mp hp with hp | hp
    · rw [List.mem_singleton.mp hp] at q
      obtain ⟨o, ho⟩ := mem_keys q
      exact ok₃.dis _ (List.mem_append_left _ ho) (by simp)
    · exact hex.dis p hp q, hex.cel, hex.loc⟩
  have perm : ∀ {σ' W' s'} {a b : List (Addr × Obj)}, Rep ((fx.pushL a).pushL b) σ' W' s' → Rep ((fx.pushL b).pushL a) σ' W' s' := by
    intro σ' W' s' a b R'
    refine R'.elim fun e g m news G F N c => ?_
    have hmem : ∀ p, p ∈ a ++ (b ++ fx.ex) → p ∈ b ++ (a ++ fx.ex) := fun p hp => by
      simp only [List.mem_append] at hp ⊢
      rcases hp with h | h | h <;> simp [h]
    have hmem' : ∀ p, p ∈ b ++ (a ++ fx.ex) → p ∈ a ++ (b ++ fx.ex) := fun p hp => by
      simp only [List.mem_append] at hp ⊢
      rcases hp with h | h | h <;> simp [h]
    refine ⟨e, g, m, news, G, F, N, c.nd, fun p hp => c.exs p (hmem p hp), fun p hp => c.exd p (hmem p hp), c.aln, c.len, c.obs, c.tps, fun x v h => ?_, c.cel, c.scc, c.mfx, fun p hp t ht => c.ext p (hmem p hp) t ht⟩
    obtain ⟨u, h1, h2⟩ := c.loc x v h
    refine ⟨u, h1, ?_⟩
    cases h2 with
    | loc a b c => exact .loc a b c
    | comp a b c => exact .comp a (hmem' _ b) c
    | cell a b c d => exact .cell a b c d
  have R₄ := perm R₃
  have loop : ∀ s₃ : Shared, s₃ = { s₂ with heap := h₃, toks := s₂.toks } →
      codeAny fx.M fx.A (.compLoop (.ListComp elt [⟨t, iter, ifs, 0⟩] scope pos) 0 (.ref Io) (.ref s₂.heap.objs.size) (compEnvC scope (clOf fx.env scope.names []) H2.objs.size fx.env))
        (compPost fx.M fx.A (PX fx W X) use Qr (.ref s₂.heap.objs.size) H2.objs.size) s₃ := by
    rintro s₃ rfl
    refine compLoop_any (fun n s' => ∃ k ps' oC' W' hp, n = its.length - k ∧ k ≤ its.length ∧ W₂.le W' ∧ st k ps' ∧ ExOk fx [(H2.objs.size, oC')] ∧ ExOk (fx.pushL [(H2.objs.size, oC')]) ps' ∧ NsObj oC' ∧
      Rep ((fx.pushL [(H2.objs.size, oC')]).pushL ps') ⟨σ₁.loc, hp⟩ W' s' ∧ J k hp) ?_ its.length ⟨0, ps, oC, W₂, _, rfl, Nat.zero_le _, .refl _, hst, okC, okP, ⟨es, ep, hdC, hkC⟩, R₄, h0⟩
    rintro n s' ⟨k, ps', oC', W', hp, rfl, hk, le', hst', okC', okP', hoC', R', hJ⟩
    have LE' := le₁.trans (le₂.trans le')
    rcases Nat.lt_or_ge k its.length with hlt | hge
    · refine S.next [(H2.objs.size, oC')] k ps' _ W' s' hlt (le₂.trans le') hst' okP' R' (hneed k hp hJ) _ _ fun u ps'' W'' h'' tk'' hst'' hkey le'' r'' R'' => ?_
      refine S.own [(H2.objs.size, oC')] (k + 1) ps'' _ W'' _ t u hst'' R'' _ _ ?_
      have okP'' := okP'.keys hkey
      have okJ := okC'.join okP''
      rw [pushL_pushL] at R''
      obtain ⟨bs, htv, hloc, ht⟩ := turn k hp hlt hJ
      have hps'' := S.tup (k + 1) ps'' hst''
      refine asgC all hq co.kind hps'' okJ R'' hoC' htv hloc r'' fun oC₂ h₅ tk₅ ho₂ hl₂ R₅ => ?_
      have okC₂ : ExOk fx [(H2.objs.size, oC₂)] := okC'.keys rfl
      have okP₂ : ExOk (fx.pushL [(H2.objs.size, oC₂)]) ps'' := ExOk.left (qs := [(H2.objs.size, oC')]) rfl okP''
      obtain ⟨fc, allc, e1, e2, e3, e4, e5, e6, Rc, back⟩ := toC all co (List.mem_append_right _ (List.mem_singleton.mpr rfl)) R₅ hl₂ (fun y v h => by
        rcases setAll_mem h with ⟨b, hb, rfl⟩ | q
        · exact hloc b hb
        · cases q) (l' := setAll (compLoc scope σ₁.loc) bs) (fun y v h => setAll_split h)
      have hM : fc.M = fx.M := by show model fc.pg.prog fc.pg.w = model fx.pg.prog fx.pg.w; rw [e1]
      have h₆ := ht fc allc e1 e2 e3 e6 (by rw [e4]; rfl) W'' _ Rc
      rw [hM, e5, e4] at h₆
      refine wpAny_mono h₆ ?_ fun _ _ x => x.never.elim
      refine fun b s₆ zz => zz.elim fun W₆ σ₆ le₆ R₆ h₆' => ?_
      cases b with
      | true =>
        have h₇ := h₆' W₆ s₆ R₆
        rw [hM, e5, e4] at h₇
        simp only [if_true]
        refine wpAny_mono h₇ ?_ fun _ _ x => x.never.elim
        rintro y s₇ ⟨W₇, σ₇, v, le₇, R₇, r₇, acc, hacc, hlen, hJ₇⟩
        have R₈ := back σ₇ W₇ s₇ (le₆.trans le₇) R₇
        have leT : W₂.le W₇ := ((le'.trans le'').trans le₆).trans le₇
        have h₈ := append_ok (fx := fx.pushL (ps'' ++ [(H2.objs.size, oC₂)])) (X := X0) (σ := ⟨σ₁.loc, σ₇.hp⟩) (Q := fun r σ' => J (k + 1) σ'.hp ∧ σ'.loc = σ₁.loc) (v := v) hacc (by omega) ⟨hJ₇, rfl⟩ W₇ s₇ [.ref s₂.heap.objs.size, y] R₈
          (.cons (.ref (prefix_get leT.1 hD)) (.cons r₇ .nil))
        refine wpAny_mono h₈ ?_ fun _ _ x => x.never.elim
        rintro z s₉ ⟨W₉, σ₉, v₉, le₉, R₉, r₉, hJ₉, hl₉⟩
        obtain ⟨loc₉, hp₉⟩ := σ₉
        dsimp only at hl₉ hJ₉
        subst hl₉
        refine ⟨its.length - (k + 1), by omega, k + 1, ps'', oC₂, W₉, hp₉, rfl, hlt, leT.trans le₉, hst'', okC₂, okP₂, ho₂, ?_, hJ₉⟩
        rw [pushL_pushL]
        exact R₉
      | false =>
        have R₈ := back σ₆ W₆ s₆ le₆ R₆
        refine ⟨its.length - (k + 1), by omega, k + 1, ps'', oC₂, W₆, σ₆.hp, rfl, hlt, (le'.trans le'').trans le₆, hst'', okC₂, okP₂, ho₂, ?_, h₆'⟩
        rw [pushL_pushL]
        exact R₈
    · obtain rfl : k = its.length := Nat.le_antisymm hk hge
      refine S.done [(H2.objs.size, oC')] ps' _ W' s' (le₂.trans le') hst' okP' R' (hneed _ hp hJ) _ _ fun h'' tk'' R'' => ?_
      exact fin H2.objs.size oC' s₂.heap.objs.size hp W' _ okC' hoC' LE' R'' (prefix_get le'.1 hD) hJ
  exact codeAny_compStart_list (loop _ rfl) (S.self [(H2.objs.size, oC)] 0 ps _ W₂ _ hst R₄ _ _ (loop _ rfl))
end
end Mine

set_option autoImplicit false
namespace Mine
open PySem PySem.W PySem.Calls PySem.Spec PyProof.Rows

section
variable {fx : Fx} {X : XP} {σ : St} {W : Wd} {s : Shared}

theorem ns_at {h : Heap} {C : Addr} {oC : Obj} (hg : h.get? C = some oC) (ho : NsObj oC) : ∃ m, h.Ns C m := by
  obtain ⟨es, ep, hd, hk⟩ := ho
  exact ⟨nsFind es, oC, es, ep, hg, hd, hk, fun _ => rfl⟩

theorem evComp (all : FxAll fx) (hq : fx.qt = true) {elt t iter : Expr} {ifs : List Expr} {scope : Scope} {pos : Pos} {Q : V → St → Prop} (co : CompOk fx.env scope) (hs : ∀ x, foldedSetIterable iter fx.env x = pure x)
    (h : IterT fx X iter σ (fun its need σ₁ => ∃ J, CompJ fx elt t ifs scope its need σ₁ J ∧ ∀ hp, J its.length hp → Q (.ref σ₁.hp.length) ⟨σ₁.loc, hp⟩)) : EvE fx X (.ListComp elt [⟨t, iter, ifs, 0⟩] scope pos) σ Q := by
  intro W s R
  show wpAny fx.M fx.A (comprehension (.ListComp elt [⟨t, iter, ifs, 0⟩] scope pos) scope fx.env _ (newList []) false (eval iter fx.env) none) _ _ s
  refine comp_core all hq co hs h R fun its need σ₁ ⟨J, hJ, fin⟩ => ⟨J, hJ, fun C oC D hp W' s' okC ho le R' hD hJ' => ?_⟩
  obtain ⟨m, hm⟩ := ns_at (R'.exPop (List.mem_singleton.mpr rfl)) ho
  refine ⟨m, hm, fun h' hs' => ?_⟩
  have R'' := R'.exDrop okC s'.toks (h' := h') fun b o hb e => (hs'.2 b (by simpa using hb)).trans e
  exact ⟨W', _, .ref σ₁.hp.length, le, R'', .ref hD, fin hp hJ'⟩

theorem evAssignComp (all : FxAll fx) (hq : fx.qt = true) {elt t iter : Expr} {ifs : List Expr} {scope : Scope} {pos p spos : Pos} {y : Str} {Q : Fl → St → Prop} (hy : isVar fx y) (co : CompOk fx.env scope) (hs : ∀ x, foldedSetIterable iter fx.env x = pure x)
    (h : IterT fx X iter σ (fun its need σ₁ => ∃ J, CompJ fx elt t ifs scope its need σ₁ J ∧ ∀ hp, J its.length hp → Q .next ⟨setN σ₁.loc y (.ref σ₁.hp.length), hp⟩)) :
    EvS fx X (.Assign [.Name y p] (.ListComp elt [⟨t, iter, ifs, 0⟩] scope pos) spos) σ Q := by
  have hsw : ∃ b, swapsWith (.ListComp elt [⟨t, iter, ifs, 0⟩] scope pos) (some (.Name y p)) spos.line fx.env = pure b := ⟨_, rfl⟩
  obtain ⟨b, hb⟩ := hsw
  intro W s R
  cases b with
  | false =>
    refine wpAny_Assign_Name (wpAny_mono (evComp all hq co hs (Q := fun v σ' => Q .next (σ'.set y v)) (h.mono fun its need σ' ⟨J, a, b⟩ => ⟨J, a, fun hp q => b hp q⟩) W s R) ?_ fun _ _ x => x) hb
    refine fun u s₁ zz => zz.elim fun W₁ σ₁ v le₁ R₁ r₁ h₁ => ?_
    exact storeVar all hy R₁ r₁ fun _ _ R₂ => ⟨W₁, _, .next, le₁, R₂, .next, h₁⟩
  | true =>
    rw [exec_Assign_Name_used _ _ _ _ hb]
    refine wpAny_bind (wpAny_standAt (wpAny_bind ?_))
    show wpAny _ _ (do let _ ← comprehension (.ListComp elt [⟨t, iter, ifs, 0⟩] scope pos) scope fx.env _ (newList []) false (eval iter fx.env) (some (assign (.Name y p) fx.env))) _ _ s
    refine wpAny_bind (wpAny_mono (comp_core all hq co hs h R (use := some (assign (.Name y p) fx.env)) (Qr := fun _ s' => PF fx W Q .next s') fun its need σ₁ ⟨J, hJ, fin⟩ => ⟨J, hJ, fun C oC D hp W' s' okC ho le R' hD hJ' => ?_⟩)
      (fun _ s' hq' => wpAny_pure (wpAny_pure hq')) fun _ _ x => x)
    show wpAny fx.M fx.A (assign (.Name y p) fx.env (.ref D)) _ _ s'
    have hy' : isVar (fx.pushL [(C, oC)]) y := hy
    refine wpAny_mono (asgName (X := X0) (all.pushL okC) hy' (Q := fun σ' => σ' = (⟨setN σ₁.loc y (.ref σ₁.hp.length), hp⟩ : St)) (p := p) rfl W' s' (.ref D) R' (.ref hD)) ?_ fun _ _ x => x.never.elim
    rintro _ s₂ ⟨W₂, σ₂, le₂, R₂, rfl⟩
    obtain ⟨m, hm⟩ := ns_at (R₂.exPop (List.mem_singleton.mpr rfl)) ho
    refine ⟨m, hm, fun h' hs' => ?_⟩
    have R'' := R₂.exDrop okC s₂.toks (h' := h') fun b o hb e => (hs'.2 b (by simpa using hb)).trans e
    exact ⟨W₂, _, .next, le.trans le₂, R'', .next, fin hp hJ'⟩

theorem evCallF (all : FxAll fx) {f : Str} {p pos : Pos} {a : Addr} {e : Expr} {rest : List Expr} {Q : V → St → Prop} (hf : fx.pg.gl f = some (.ref a)) (hk : fx.env.kindOf f = some .globalImplicit) (hd : (f == ("__debug__" : Str)) = false) (hfn : fnIn fx.pg.K a = true) (hs : (e :: rest).all noStar = true)
    (h : EvEs fx X (e :: rest) σ (fun vs σ₁ => CallT fx X (.ref a) vs σ₁ Q)) : EvE fx X (.Call (.Name f p) (e :: rest) [] pos) σ Q := by
  intro W s R
  rw [List.all_cons, Bool.and_eq_true] at hs
  refine Call_Name rfl (all.glb f _ p hf hk σ W s _ _ R ?_ hd)
  unfold fnIn at hfn
  split at hfn
  · rename_i c d fd sl q
    refine callWith_def (o := ⟨c, d, .func fd, sl⟩) (fd := fd) rfl (wpAny_mono (h W s pos R) ?_ fun _ _ x => x) (star_cons hs.1 _ _)
    refine fun us s₁ zz => zz.elim fun W₁ σ₁ vs le₁ R₁ r₁ h₁ => ?_
    refine ⟨?_, wpAny_mono (h₁ W₁ s₁ us R₁ r₁) (fun _ _ x => x.mono le₁ fun _ _ y => y) fun _ _ x => x.mono le₁ fun _ _ y => y⟩
    exact all.stays R₁ _ _ (all.part _ _ q)
  · cases hfn

theorem callT_of (all : FxAll fx) {lev : Nat} {qt : Bool} {a : Addr} {vs : List V} {Q : V → St → Prop} (hl : lev ≤ fx.lev) (hq : qt = true → fx.qt = true) (h : CallOK fx.pg lev qt fx.ns a vs σ.hp (fun c hp' => X c ⟨σ.loc, hp'⟩) (fun v hp' => Q v ⟨σ.loc, hp'⟩)) : CallT fx X (.ref a) vs σ Q :=
  fun W s us R r => wpAny_mono (wpAny_call (h fx all rfl hl rfl hq σ.loc W s us R r)) (fun _ _ x => x.mono (.refl _) fun v σ' ⟨y, z⟩ => by obtain ⟨l, hp⟩ := σ'; dsimp only at y z; subst y; exact z)
    fun _ _ x => x.mono (.refl _) fun v σ' ⟨y, z⟩ => by obtain ⟨l, hp⟩ := σ'; dsimp only at y z; subst y; exact z

/-- targets of a frame's own -/
theorem asgInOrder (all : FxAll fx) : ∀ (es : List Expr) (vs : List V) (bs : List (Str × V)), es.length = vs.length → ((es.zip vs).mapM nmV) = some bs → (∀ b ∈ bs, isVar fx b.1) →
    ∀ (us : List Value) (σ : St) (W : Wd) (s : Shared) (Q : Unit → Shared → Prop) (E : Value → Shared → Prop), VRs W vs us → Rep fx σ W s →
    (∀ h' tk, Rep fx ⟨setAll σ.loc bs, σ.hp⟩ W { s with heap := h', toks := tk } → Q () { s with heap := h', toks := tk }) →
    wpAny fx.M fx.A (PySem.assignInOrder ((assignEach es fx.env).map (·.2)) us) Q E s
  | [], vs, bs, hlen, hb, hn, us, σ, W, s, Q, E, r, R, k => by
    simp at hb
    subst hb
    exact assignInOrder_nil (k s.heap s.toks R)
  | e :: es, [], bs, hlen, hb, hn, us, σ, W, s, Q, E, r, R, k => by simp at hlen
  | e :: es, v :: vs, bs, hlen, hb, hn, us, σ, W, s, Q, E, r, R, k => by
    cases r with
    | @cons _ _ u us r rs =>
      rw [List.zip_cons_cons, List.mapM_cons] at hb
      cases e with
      | Name x p =>
        simp only [nmV, bind_pure_comp, Option.bind_eq_bind, Option.bind_some] at hb
        cases hr : ((es.zip vs).mapM nmV) with
        | none => rw [hr] at hb; simp [nmV] at hb
        | some bs' =>
          rw [hr] at hb
          simp at hb
          subst hb
          refine assignInOrder_cons ?_
          refine wpAny_bind (wpAny_standAt (wpAny_bindName (storeVar all (hn _ (.head _)) R r fun h' tk R' => ?_)))
          exact asgInOrder all es vs bs' (by simpa using hlen) hr (fun b hb => hn b (.tail _ hb)) us _ W _ Q E rs R' fun h'' tk'' a => k h'' tk'' a
      | _ => simp [nmV] at hb

theorem tgt_each : ∀ (es : List Expr) (vs : List V) (bs : List (Str × V)), es.length = vs.length → ((es.zip vs).mapM nmV) = some bs → ∀ env, (assignEach es env).length = es.length ∧ (assignEach es env).findIdx? (·.1) = none := by
  intro es
  induction es with
  | nil => intro vs bs _ _ env; exact ⟨rfl, rfl⟩
  | cons e es ih =>
    intro vs bs hl hb env
    cases vs with
    | nil => simp at hl
    | cons v vs =>
      rw [List.zip_cons_cons, List.mapM_cons] at hb
      cases e with
      | Name x p =>
        cases hr : ((es.zip vs).mapM nmV) with
        | none => rw [hr] at hb; simp [nmV] at hb
        | some bs' =>
          obtain ⟨i1, i2⟩ := ih vs bs' (by simpa using hl) hr env
          have e1 : assignEach (Expr.Name x p :: es) env = (false, assign (.Name x p) env) :: assignEach es env := rfl
          rw [e1]
          refine ⟨by simp [i1], ?_⟩
          rw [List.findIdx?_cons, i2]
          rfl
      | _ => simp [nmV] at hb

theorem asgT_of (all : FxAll fx) (hq : fx.qt = true) {t : Expr} {v : V} {bs : List (Str × V)} {Q : St → Prop} (ht : tgtV t v = some bs) (hn : ∀ b ∈ bs, isVar fx b.1) (h : Q ⟨setAll σ.loc bs, σ.hp⟩) : AsgT fx X t v σ Q := by
  unfold tgtV at ht
  split at ht
  · cases ht
    exact asgName all (hn _ (.head _)) h
  · rename_i es n p
    split at ht
    · rename_i vs
      split at ht
      · rename_i hlen
        intro W s u R r
        obtain ⟨a, xs, rfl, h2, h3⟩ := R.tup_at r
        obtain ⟨q1, q2⟩ := tgt_each es vs bs hlen ht fx.env
        refine assign_Tuple_tuple (all.ok.handled hq) (tupObj_isTup h2) (by rw [q1, hlen, h3.length]; simp) q2 fun h' he => ?_
        have R' := R.keep (h' := h') s.toks fun b o e => he b o (Nat.ne_of_lt (Heap.lt_size e)) e
        exact asgInOrder all es vs bs hlen ht hn _ σ W _ _ _ (by simpa using h3) R' fun h'' tk a => ⟨W, _, .refl _, a, h⟩
      · cases ht
    · cases ht
  · cases ht

/-! stores into lists -/
def SetT (fx : Fx) (X : XP) (o i v : V) (σ : St) (Q : St → Prop) : Prop :=
  ∀ W s u₁ u₂ u₃, Rep fx σ W s → VR W o u₁ → VR W i u₂ → VR W v u₃ → wpAny fx.M fx.A (setItem u₁ u₂ u₃) (PU fx W Q) (PX fx W X) s

theorem set_list {j : Nat} {xs : List V} {k : Int} {v : V} {Q : St → Prop} (ho : σ.hp[j]? = some (.list xs)) (h0 : 0 ≤ k) (h1 : k < xs.length) (hk : k < 2 ^ 63) (h : Q ⟨σ.loc, σ.hp.set j (.list (xs.set k.toNat v))⟩) : SetT fx X (.ref j) (.int k) v σ Q := by
  intro W s u₁ u₂ u₃ R r₁ r₂ r₃
  obtain ⟨a, ys, n, rfl, ha, h2, h3⟩ := R.list_at ho r₁
  cases r₂
  refine ki_setAt h2 h0 hk (by simp [← h3.length]; exact h1) ⟨W, _, .refl _, R.upd ho ha (o' := .list (xs.set k.toNat v)) (ob' := listObj (ys.set k.toNat u₃) n) (.list n (h3.set _ r₃)) s.toks (Heap.SameBut.update ..).extBut ?_, h⟩
  rw [Heap.get?_update_self _ h2 rfl]
  simp [Obj.mapSeq]

theorem evAssignSub {o i e : Expr} {p pos : Pos} {Q : Fl → St → Prop} (h : EvE fx X e σ (fun v σ₁ => EvE fx X o σ₁ (fun ov σ₂ => EvE fx X i σ₂ (fun iv σ₃ => SetT fx X ov iv v σ₃ (fun σ₄ => Q .next σ₄))))) (hc : notComp e = true) : EvS fx X (.Assign [.Subscript o i p] e pos) σ Q := by
  intro W s R
  refine wpAny_Assign_Subscript (wpAny_mono (h W s R) ?_ fun _ _ x => x) (swaps_false hc _ _ _)
  refine fun u₁ s₁ zz => zz.elim fun W₁ σ₁ v₁ le₁ R₁ r₁ h₁ => ?_
  refine wpAny_mono (h₁ W₁ s₁ R₁) ?_ fun _ _ x => x.mono le₁ fun _ _ y => y
  refine fun u₂ s₂ zz => zz.elim fun W₂ σ₂ v₂ le₂ R₂ r₂ h₂ => ?_
  refine wpAny_mono (h₂ W₂ s₂ R₂) ?_ fun _ _ x => x.mono (le₁.trans le₂) fun _ _ y => y
  refine fun u₃ s₃ zz => zz.elim fun W₃ σ₃ v₃ le₃ R₃ r₃ h₃ => ?_
  refine wpAny_mono (h₃ W₃ s₃ u₂ u₃ u₁ R₃ (r₂.mono le₃) r₃ (r₁.mono (le₂.trans le₃))) ?_ fun _ _ x => x.mono ((le₁.trans le₂).trans le₃) fun _ _ y => y
  refine fun _ s₄ zz => zz.elim fun W₄ σ₄ le₄ R₄ h₄ => ?_
  exact ⟨W₄, σ₄, .next, ((le₁.trans le₂).trans le₃).trans le₄, R₄, .next, h₄⟩
end
end Mine

set_option autoImplicit false
namespace Mine
open PySem PySem.W PySem.Calls PySem.Spec PyProof.Rows

theorem ofString_inj (a b : String) : (Str.ofString a = Str.ofString b) = (a = b) := by
  refine propext ⟨fun h => ?_, fun h => h ▸ rfl⟩
  rw [Str.ofString_eq_toList, Str.ofString_eq_toList] at h
  have h1 : (a.toList.map Char.toNat) = (b.toList.map Char.toNat) := by simpa using h
  have h2 : a.toList = b.toList := by
    have inj : ∀ c d : Char, c.toNat = d.toNat → c = d := fun c d e => Char.toNat_inj.mp e
    exact List.map_inj_right inj |>.mp h1
  exact String.toList_inj.mp h2

section
variable {fx : Fx} {X : XP} {σ : St} {W : Wd} {s : Shared}

theorem evCmp2 {l r₁ r₂ : Expr} {op₁ op₂ : CmpOp} {pos : Pos} {Q : V → St → Prop}
    (h : EvE fx X l σ (fun a σ₁ => EvE fx X r₁ σ₁ (fun b σ₂ => CmpT fx X op₁ a b σ₂ (fun c σ₃ => TruT fx X c σ₃ (fun t σ₄ => if t then EvE fx X r₂ σ₄ (fun d σ₅ => CmpT fx X op₂ b d σ₅ Q) else Q c σ₄)))))
    (hm : lastMarks [op₁, op₂] [r₁, r₂] = false) : EvE fx X (.Compare l [op₁, op₂] [r₁, r₂] pos) σ Q := by
  intro W s R
  refine Compare_chain (ops := []) (rs := []) (wpAny_mono (h W s R) ?_ fun _ _ x => x) hm
  refine fun u₁ s₁ zz => zz.elim fun W₁ σ₁ a le₁ R₁ q₁ h₁ => ?_
  refine chain_link (wpAny_mono (h₁ W₁ s₁ R₁) ?_ fun _ _ x => x.mono le₁ fun _ _ y => y)
  refine fun u₂ s₂ zz => zz.elim fun W₂ σ₂ b le₂ R₂ q₂ h₂ => ?_
  refine wpAny_mono (h₂ W₂ s₂ u₁ u₂ R₂ (q₁.mono le₂) q₂) ?_ fun _ _ x => x.mono (le₁.trans le₂) fun _ _ y => y
  refine fun u₃ s₃ zz => zz.elim fun W₃ σ₃ c le₃ R₃ q₃ h₃ => ?_
  have LE := (le₁.trans le₂).trans le₃
  refine wpAny_mono (h₃ W₃ s₃ u₃ R₃ q₃) ?_ fun _ _ x => x.mono LE fun _ _ y => y
  refine fun t s₄ zz => zz.elim fun W₄ σ₄ le₄ R₄ h₄ => ?_
  cases t with
  | true =>
    refine chain_last (wpAny_mono (h₄ W₄ s₄ R₄) ?_ fun _ _ x => x.mono (LE.trans le₄) fun _ _ y => y)
    refine fun u₅ s₅ zz => zz.elim fun W₅ σ₅ d le₅ R₅ q₅ h₅ => ?_
    exact wpAny_mono (h₅ W₅ s₅ u₂ u₅ R₅ (q₂.mono ((le₃.trans le₄).trans le₅)) q₅) (fun _ _ x => x.mono ((LE.trans le₄).trans le₅) fun _ _ y => y) fun _ _ x => x.mono ((LE.trans le₄).trans le₅) fun _ _ y => y
  | false => exact ⟨W₄, σ₄, c, LE.trans le₄, R₄, q₃.mono le₄, h₄⟩

theorem evB_cmp2 {l r₁ r₂ : Expr} {op₁ op₂ : CmpOp} {pos : Pos} {Q : Bool → St → Prop}
    (h : EvE fx X l σ (fun a σ₁ => EvE fx X r₁ σ₁ (fun b σ₂ => CmpT fx X op₁ a b σ₂ (fun c σ₃ => TruT fx X c σ₃ (fun t σ₄ => if t then EvE fx X r₂ σ₄ (fun d σ₅ => CmpT fx X op₂ b d σ₅ (fun e σ₆ => TruT fx X e σ₆ Q)) else Q false σ₄)))))
    (hm : lastMarks [op₁, op₂] [r₁, r₂] = false) : EvB fx X (.Compare l [op₁, op₂] [r₁, r₂] pos) σ Q := by
  intro W s R
  refine isTrue_chain (ops := []) (rs := []) (wpAny_mono (h W s R) ?_ fun _ _ x => x) hm
  refine fun u₁ s₁ zz => zz.elim fun W₁ σ₁ a le₁ R₁ q₁ h₁ => ?_
  refine test_link (wpAny_mono (h₁ W₁ s₁ R₁) ?_ fun _ _ x => x.mono le₁ fun _ _ y => y)
  refine fun u₂ s₂ zz => zz.elim fun W₂ σ₂ b le₂ R₂ q₂ h₂ => ?_
  refine wpAny_mono (h₂ W₂ s₂ u₁ u₂ R₂ (q₁.mono le₂) q₂) ?_ fun _ _ x => x.mono (le₁.trans le₂) fun _ _ y => y
  refine fun u₃ s₃ zz => zz.elim fun W₃ σ₃ c le₃ R₃ q₃ h₃ => ?_
  have LE := (le₁.trans le₂).trans le₃
  refine wpAny_mono (h₃ W₃ s₃ u₃ R₃ q₃) ?_ fun _ _ x => x.mono LE fun _ _ y => y
  refine fun t s₄ zz => zz.elim fun W₄ σ₄ le₄ R₄ h₄ => ?_
  cases t with
  | true =>
    refine test_last (wpAny_mono (h₄ W₄ s₄ R₄) ?_ fun _ _ x => x.mono (LE.trans le₄) fun _ _ y => y)
    refine fun u₅ s₅ zz => zz.elim fun W₅ σ₅ d le₅ R₅ q₅ h₅ => ?_
    refine wpAny_mono (h₅ W₅ s₅ u₂ u₅ R₅ (q₂.mono ((le₃.trans le₄).trans le₅)) q₅) ?_ fun _ _ x => x.mono ((LE.trans le₄).trans le₅) fun _ _ y => y
    refine fun u₆ s₆ zz => zz.elim fun W₆ σ₆ e le₆ R₆ q₆ h₆ => ?_
    have LE' := ((LE.trans le₄).trans le₅).trans le₆
    exact wpAny_mono (h₆ W₆ s₆ u₆ R₆ q₆) (fun _ _ x => x.mono LE' fun _ _ y => y) fun _ _ x => x.mono LE' fun _ _ y => y
  | false => exact ⟨W₄, σ₄, LE.trans le₄, R₄, h₄⟩

/-! methods -/
def baseOk : Expr → Bool
  | .Call .. => false
  | _ => true
theorem attributeBase_plain {o : Expr} (h : baseOk o = true) (attr : Str) (env : Env) (whole : Sem Value) : attributeBase o attr env whole = whole := by
  cases o <;> first | rfl | cases h

theorem star_all : ∀ {es : List Expr}, es.all noStar = true → ∀ (pos : Pos) (env : Env), (backTo pos (starEach es env)).all (!·.1) = true
  | [], _, _, _ => rfl
  | e :: r, h, pos, env => by
    rw [List.all_cons, Bool.and_eq_true] at h
    rw [star_cons h.1]
    have := star_all h.2 pos env
    simpa [backTo] using this

theorem evMeth {o : Expr} {name : Str} {apos pos : Pos} {args : List Expr} {Q : V → St → Prop} (hb : baseOk o = true) (ha : args.all noStar = true) (hn : args.length < 30) (hp : (apos.endLine == pos.line) = true)
    (h : EvE fx X o σ (fun ov σ₁ => ∃ id, GetM fx ov name id σ₁ ∧ EvEs fx X args σ₁ (fun vs σ₂ => CallT fx X (.builtin id) (ov :: vs) σ₂ Q))) : EvE fx X (.Call (.Attribute o name apos) args [] pos) σ Q := by
  intro W s R
  have he : eval (.Call (.Attribute o name apos) args [] pos) fx.env = (do
      let ov ← attributeBase o name fx.env (eval o fx.env)
      standAt apos.atName
      methodCall o name apos pos fx.env ov (args.length + 0) (backTo pos (starEach args fx.env)) []) := rfl
  rw [he, attributeBase_plain hb]
  refine wpAny_bind (wpAny_mono (h W s R) ?_ fun _ _ x => x)
  rintro u s₁ ⟨W₁, σ₁, ov, le₁, R₁, r₁, id, hg, h₁⟩
  refine wpAny_bind (wpAny_standAt ?_)
  unfold methodCall
  have hf : methodCallForm (args.length + 0) (backTo pos (starEach args fx.env)) [] = true := by
    unfold methodCallForm
    rw [star_all ha]
    simp; omega
  rw [hf]
  unfold calleeOf
  simp only [if_true]
  refine wpAny_bind (wpAny_holding (hg W₁ s₁ u _ _ _ R₁ r₁ ?_))
  unfold methodCallPos
  simp only [Bool.not_true, Bool.false_or, hp, if_true]
  refine wpAny_bind (wpAny_pure ?_)
  cases args with
  | nil =>
    refine callWith_method0 ?_
    have h₂ := h₁ W₁ s₁ pos R₁
    have h₃ : wpAny fx.M fx.A (spliced (backTo pos (starEach [] fx.env))) (fun us s' => us = [] ∧ PVs fx W₁ (fun vs σ₂ => CallT fx X (.builtin id) (ov :: vs) σ₂ Q) us s') (PX fx W₁ X) s₁ := by
      have e0 : spliced (backTo pos (starEach [] fx.env)) = pure [] := rfl
      rw [e0] at h₂ ⊢
      exact fun Γ p hΓ => ⟨rfl, h₂ Γ p hΓ⟩
    have e0 : spliced (backTo pos (starEach [] fx.env)) = pure [] := rfl
    rw [e0] at h₃
    intro Γ p hΓ
    obtain ⟨_, W₂, σ₂, vs, le₂, R₂, r₂, h₄⟩ := h₃ Γ p hΓ
    cases r₂
    exact wpAny_mono (h₄ W₂ s₁ [u] R₂ (.cons (r₁.mono le₂) .nil)) (fun _ _ x => x.mono (le₁.trans le₂) fun _ _ y => y) (fun _ _ x => x.mono (le₁.trans le₂) fun _ _ y => y) Γ p hΓ
  | cons e rest =>
    rw [List.all_cons, Bool.and_eq_true] at ha
    refine callWith_method1 (wpAny_mono (h₁ W₁ s₁ pos R₁) ?_ fun _ _ x => x.mono le₁ fun _ _ y => y) (star_cons ha.1 _ _) (star_any ha.2 _ _)
    refine fun us s₂ zz => zz.elim fun W₂ σ₂ vs le₂ R₂ r₂ h₂ => ?_
    exact wpAny_mono (h₂ W₂ s₂ (u :: us) R₂ (.cons (r₁.mono le₂) r₂)) (fun _ _ x => x.mono (le₁.trans le₂) fun _ _ y => y) fun _ _ x => x.mono (le₁.trans le₂) fun _ _ y => y

theorem pop_ok {i : Nat} {vs : List V} {v : V} {Q : V → St → Prop} (ho : σ.hp[i]? = some (.list (vs ++ [v]))) (hl : vs.length < sizeLine) (h : Q v ⟨σ.loc, σ.hp.set i (.list vs)⟩) : CallT fx X (.builtin "list.pop") [.ref i] σ Q := by
  intro W s us R r
  cases r with
  | cons r₁ r =>
    cases r
    obtain ⟨a, xs, n, rfl, ha, h2, h3⟩ := R.list_at ho r₁
    have hlen := h3.length
    obtain ⟨ys, y, rfl⟩ : ∃ ys y, xs = ys ++ [y] := by
      rcases List.eq_nil_or_concat xs with rfl | ⟨ys, y, rfl⟩
      · simp at hlen
      · exact ⟨ys, y, by simp⟩
    have hlen' : vs.length = ys.length := by simpa using hlen
    have h3a : VRs W vs ys := by
      have := h3.take vs.length
      rw [List.take_left] at this
      rw [hlen', List.take_left] at this
      exact this
    have h3b : VR W v y := by
      obtain ⟨y', hy', hv⟩ := h3.get (i := vs.length) (v := v) (by simp)
      rw [hlen'] at hy'
      simp at hy'
      subst hy'
      exact hv
    have hz' : (ys ++ [y]).toArray.size ≤ sizeLine := by simp; omega
    have hk : (ys ++ [y]).toArray.size - 1 = ys.length := by simp
    have hy : (ys ++ [y]).toArray[(ys ++ [y]).toArray.size - 1]? = some y := by rw [hk]; simp
    refine call_meets PySem.F.slot_list_pop ⟨_, h2, rfl⟩ PySem.F.entry_list_pop (PySem.F.args_list_pop_1 _) (PySem.MeetsSeq.list_pop_last a _ n y hy hz') ⟨h2, ?_⟩
    refine ⟨W, _, v, .refl _, R.upd ho ha (o' := .list vs) (ob' := listObj ys (n + 1)) (.list (n + 1) h3a) s.toks (Heap.SameBut.update ..).extBut ?_, h3b, h⟩
    rw [Heap.get?_update_self _ h2 rfl]
    have e1 : (ys ++ [y]).eraseIdx ys.length = ys := by rw [List.eraseIdx_append_of_length_le (Nat.le_refl _)]; simp
    simp [Obj.mapSeq, e1]

/-! slices -/
def pickV (vs : List V) (lo hi : Option Int) : List V := (vs.drop (kms_lo lo vs.length)).take (kms_hi hi vs.length - kms_lo lo vs.length)
def EvO (fx : Fx) (X : XP) (o : Option Expr) (σ : St) (Q : Option Int → St → Prop) : Prop := match o with
  | none => Q none σ
  | some e => EvE fx X e σ (fun v σ₁ => ∃ k, v = .int k ∧ Q (some k) σ₁)
theorem evO_run {o : Option Expr} {Q : Option Int → St → Prop} (h : EvO fx X o σ Q) (R : Rep fx σ W s) {Q' : Value → Shared → Prop} (k : ∀ u a W' σ' s', W.le W' → Rep fx σ' W' s' → IsPart u a → Q a σ' → Q' u s') :
    wpAny fx.M fx.A (valueOrNone (evalOpt o fx.env)) Q' (PX fx W X) s := by
  cases o with
  | none => exact wpAny_pure (k .none none W σ s (.refl _) R .none h)
  | some e =>
    refine wpAny_mono (h W s R) ?_ fun _ _ x => x
    rintro u s₁ ⟨W₁, σ₁, v, le₁, R₁, r₁, a, rfl, h₁⟩
    cases r₁
    exact k _ (some a) W₁ σ₁ s₁ le₁ R₁ (.int _ _) h₁
def SliceV (o : V) (a b : Option Int) (σ : St) (Q : V → St → Prop) : Prop := ∃ i vs, o = .ref i ∧ (σ.hp[i]? = some (.list vs) ∧ vs.length ≤ sizeLine) ∧ Q (.ref σ.hp.length) ⟨σ.loc, σ.hp ++ [.list (pickV vs a b)]⟩
theorem evSlice {x : Str} {q pos sp : Pos} {lo hi : Option Expr} {Q : V → St → Prop} (h : EvE fx X (.Name x q) σ (fun o σ₁ => EvO fx X lo σ₁ (fun a σ₂ => EvO fx X hi σ₂ (fun b σ₃ => SliceV o a b σ₃ Q)))) : EvE fx X (.Subscript (.Name x q) (.Slice lo hi none sp) pos) σ Q := by
  intro W s R
  refine Subscript_ (wpAny_mono (h W s R) ?_ fun _ _ x => x)
  refine fun u₁ s₁ zz => zz.elim fun W₁ σ₁ o le₁ R₁ r₁ h₁ => ?_
  rw [arm_eval_Slice]
  refine wpAny_bind (wpAny_mono (evO_run h₁ R₁ (Q' := fun u s' => ∃ a W' σ', W₁.le W' ∧ Rep fx σ' W' s' ∧ IsPart u a ∧ EvO fx X hi σ' (fun b σ₃ => SliceV o a b σ₃ Q)) fun u a W' σ' s' le R p q => ⟨a, W', σ', le, R, p, q⟩) ?_ fun _ _ x => x.mono le₁ fun _ _ y => y)
  rintro ul s₂ ⟨a, W₂, σ₂, le₂, R₂, p₂, h₂⟩
  refine wpAny_bind (wpAny_holding (wpAny_mono (evO_run h₂ R₂ (Q' := fun u s' => ∃ b W' σ', W₂.le W' ∧ Rep fx σ' W' s' ∧ IsPart u b ∧ SliceV o a b σ' Q) fun u a W' σ' s' le R p q => ⟨a, W', σ', le, R, p, q⟩) ?_ fun _ _ x => x.mono (le₁.trans le₂) fun _ _ y => y))
  rintro uh s₃ ⟨b, W₃, σ₃, le₃, R₃, p₃, i, vs, rfl, ⟨h3, h4⟩, h5⟩
  refine wpAny_bind (wpAny_holding (wpAny_pure ?_))
  have LE := (le₁.trans le₂).trans le₃
  obtain ⟨l, xs, n, rfl, _, k1, k2⟩ := R₃.list_at h3 (r₁.mono (le₂.trans le₃))
  refine R₃.elim fun er g m news G F N C => ?_
  refine wpAny_newObj_type ?_ (by size_fits)
  refine slice_list F N (listObj_isList k1) p₂ p₃ (fun h' F' N' => ?_) (hsz := by rw [List.size_toArray, ← k2.length]; exact h4)
  rw [kms_pick_eq] at N'
  obtain ⟨W', le', hD, R'⟩ := Rep.addN er G C (o := .list (pickV vs a b)) F' N' (fun p hp => Nat.ne_of_lt (Nat.lt_succ_of_lt (Heap.lt_size (N p hp).1))) fun W' le => .list 0 (by
    unfold pickV kms_pick
    rw [k2.length]
    exact ((k2.mono le).drop _).take _)
  exact ⟨W', _, .ref σ₃.hp.length, LE.trans le', R', .ref hD, h5⟩
/-! all, any -/
theorem vrs_bools {bs : List Bool} {xs : List Value} (h : VRs W (bs.map .bool) xs) : xs = bs.map .bool := by
  induction bs generalizing xs with
  | nil => cases h; rfl
  | cons b bs ih =>
    cases h with
    | cons a r => cases a; rw [ih r]; rfl
theorem all_any (all : FxAll fx) (hq : fx.qt = true) {i : Nat} {bs : List Bool} {Q : V → St → Prop} (ho : σ.hp[i]? = some (.list (bs.map .bool))) :
    (Q (.bool (bs.all id)) σ → CallT fx X (.builtin "all") [.ref i] σ Q) ∧ (Q (.bool (bs.any id)) σ → CallT fx X (.builtin "any") [.ref i] σ Q) := by
  have hh : (fx.A.in1).handled = none := all.ok.handled hq
  have key : ∀ W s us, Rep fx σ W s → VRs W [.ref i] us → ∃ a, us = [.ref a] ∧ ∀ (Q' : Bool → Value → Prop), wpAny fx.M fx.A.in1 (pyIter (.ref a)) (fun it s₂ => ∃ I fp wr n P St tr, it = .ref I ∧ Walks fx.pg.prog fx.pg.w fx.A.in1 I fp wr n P St ∧ St 0 s₂.heap ∧ TruthOf fx.pg.prog fx.pg.w fx.A.in1 P tr ∧
      ((List.range n).all tr = bs.all id ∧ (List.range n).any tr = bs.any id) ∧ ∀ h' tk, (∀ b o, b ∉ wr → s₂.heap.get? b = some o → h'.get? b = some o) → Rep fx σ W { s₂ with heap := h', toks := tk }) (PX fx W X) s := by
    intro W s us R r
    cases r with
    | cons r₁ r =>
      cases r
      obtain ⟨a, xs, n, rfl, _, k1, k2⟩ := R.list_at ho r₁
      have ex := vrs_bools k2
      subst ex
      refine ⟨a, rfl, fun _ => wpAny_pyIter_list (listObj_isList k1) ?_⟩
      have hne : a ≠ s.heap.objs.size := Nat.ne_of_lt (Heap.lt_size k1)
      have len : (bs.map Value.bool).toArray.size = bs.length := by simp
      refine ⟨_, _, _, _, _, _, fun j => bs.getD j false, rfl, Walks.list hh s.heap.objs.size a hne (bs.map Value.bool).toArray, ⟨⟨_, Heap.get?_push_size _ rfl, rfl, rfl⟩, (listObj_isList k1).push _⟩, ?_, ?_, ?_⟩
      · intro j v s' Q' E' hP hQ
        have : v = .bool (bs.getD j false) := by
          rw [List.getElem?_toArray, List.getElem?_map] at hP
          cases e : bs[j]? with
          | none => rw [e] at hP; cases hP
          | some b => rw [e] at hP; cases hP; simp [List.getD, e]
        subst this
        exact wpAny_truthy_bool hQ
      · rw [len]
        constructor
        · rw [Bool.eq_iff_iff, List.all_eq_true, List.all_eq_true]
          constructor
          · intro h b hb
            obtain ⟨j, hj, rfl⟩ := List.getElem_of_mem hb
            have := h j (List.mem_range.mpr hj)
            simpa [List.getD, hj] using this
          · intro h j hj
            have hj' := List.mem_range.mp hj
            have := h bs[j] (List.getElem_mem hj')
            simpa [List.getD, hj'] using this
        · rw [Bool.eq_iff_iff, List.any_eq_true, List.any_eq_true]
          constructor
          · rintro ⟨j, hj, h⟩
            have hj' := List.mem_range.mp hj
            exact ⟨bs[j], List.getElem_mem hj', by simpa [List.getD, hj'] using h⟩
          · rintro ⟨b, hb, h⟩
            obtain ⟨j, hj, rfl⟩ := List.getElem_of_mem hb
            exact ⟨j, List.mem_range.mpr hj, by simpa [List.getD, hj] using h⟩
      · intro h' tk hk
        exact R.keep tk fun b o e => hk b o (by simp; exact Nat.ne_of_lt (Heap.lt_size e)) (Heap.get?_push_of_some _ e)
  constructor
  · intro h W s us R r
    obtain ⟨a, rfl, z⟩ := key W s us R r
    refine call_all_walk (wpAny_mono (z fun _ _ => True) ?_ fun _ _ x => x)
    rintro it s₂ ⟨I, fp, wr, n, P, St, tr, e, w1, w2, w3, ⟨w4, _⟩, w5⟩
    exact ⟨I, fp, wr, n, P, St, tr, e, w1, w2, w3, fun h' tk hk => by rw [w4]; exact .here (w5 h' tk hk) (.bool _) h⟩
  · intro h W s us R r
    obtain ⟨a, rfl, z⟩ := key W s us R r
    refine call_any_walk (wpAny_mono (z fun _ _ => True) ?_ fun _ _ x => x)
    rintro it s₂ ⟨I, fp, wr, n, P, St, tr, e, w1, w2, w3, ⟨_, w4⟩, w5⟩
    exact ⟨I, fp, wr, n, P, St, tr, e, w1, w2, w3, fun h' tk hk => by rw [w4]; exact .here (w5 h' tk hk) (.bool _) h⟩

/-! exceptions -/
abbrev veMro : List Value := [.type "ValueError", .type "Exception", .type "BaseException", .type "object"]
theorem evRaise (all : FxAll fx) (hq : fx.qt = true) {x : Str} {np cpos pos : Pos} {C : Addr} {e₀ : Expr} {rest : List Expr} {Q : Fl → St → Prop} (hg : fx.pg.gl x = some (.ref C)) (hgn : nsIn fx.pg.K mainGlobals x = some (some (.ref C))) (hcl : excIn fx.pg.K C veMro "ValueError.__new__" = true)
    (hk : fx.env.kindOf x = some .globalImplicit) (hd : (x == ("__debug__" : Str)) = false) (hs : (e₀ :: rest).all noStar = true)
    (h : EvEs fx X (e₀ :: rest) σ (fun vs σ₁ => vs.length ≤ sizeLine ∧ X (.ref C) σ₁)) : EvS fx X (.Raise (some (.Call (.Name x np) (e₀ :: rest) [] cpos)) none pos) σ Q := by
  intro W s R
  have O := own_of_in all.part (topRead_of all.top) hgn hcl
  obtain ⟨tl, N, nm, q, bs, hdct, sn, sub, ab, col, dd, k0, k1, k2, k3, k5, mN, hC, hN, hni, T⟩ := O.obj
  have hpl : (backTo cpos (starEach (e₀ :: rest) fx.env)).any (·.1) = false := star_any hs _ _
  rw [List.all_cons, Bool.and_eq_true] at hs
  have he := star_cons hs.1 rest fx.env
  refine wpAny_Raise_call_subU (C := C) (nm := nm) (q := q) (N := N) (bs := bs) (bm := tl) (hdct := hdct) (sn := sn) (sub := sub) (ab := ab) (col := col) (dd := dd) (k0 := k0) (k1 := k1) (k2 := k2) (k3 := k3) (k5 := k5)
    F.excBase_ValueError (by decide) F.excBase_ValueError (mN := mN) (T.hasType F.excBase_ValueError.hasBase) (all.ok.handled hq) hpl hni (all.glbAt x (.ref C) np hg hk s _ _ (all.stays R) ⟨rfl, ?_⟩ hd)
  have h' := h W s cpos R
  rw [he] at h' ⊢
  refine Calls.evalArgs_plain (wpAny_mono h' (fun us s₂ ⟨W₂, σ₂, vs, le₂, R₂, r₂, h₂, h₃⟩ => ?_) fun _ _ y => y)
  have st₂ := all.stays R₂
  exact ⟨rfl, r₂.length ▸ h₂, st₂ _ _ hC, hN.keeps st₂, T.keeps st₂, fun h'' e hx => ⟨e, .ref C, .made, W₂, σ₂, rfl, le₂, XRep.raise all R₂ hx, h₃⟩⟩

/-- the handlers of a try -/
def EvH (fx : Fx) (X : XP) (hs : List ExceptHandler) (cls : Value) (σ : St) (Q : Fl → St → Prop) : Prop :=
  ∀ e W s, XRep fx σ W e cls .fly s → wpAny fx.M fx.A (handleBy (.ref e) fx.env hs) (PF fx W Q) (PX fx W X) s
theorem evTry (all : FxAll fx) (hL : fx.env.locals = fx.L) {b : List Stmt} {h₀ : ExceptHandler} {hs : List ExceptHandler} {pos : Pos} {Xh : XP} {Q : Fl → St → Prop} (h : EvSs fx Xh b σ Q) (hh : ∀ cls σ', Xh cls σ' → EvH fx X (h₀ :: hs) cls σ' Q) : EvS fx X (.Try b (h₀ :: hs) [] [] pos) σ Q := by
  intro W s R
  refine wpAny_Try_except (wpAny_mono (h W s R) ?_ ?_)
  · refine fun f s₁ zz => zz.elim fun W₁ σ₁ fl le₁ R₁ r₁ h₁ => ?_
    cases r₁ with
    | next => exact wpAny_execs_nil ⟨W₁, σ₁, .next, le₁, R₁, .next, h₁⟩
    | brk => exact ⟨W₁, σ₁, .brk, le₁, R₁, .brk, h₁⟩
    | cont => exact ⟨W₁, σ₁, .cont, le₁, R₁, .cont, h₁⟩
    | ret r => exact ⟨W₁, σ₁, .ret _, le₁, R₁, .ret r, h₁⟩
  · rintro u s₁ ⟨e, cls, k, W₁, σ₁, rfl, le₁, x, hX⟩
    have ef := all.envf hL
    have hh' := hh cls σ₁ hX e W₁
    rw [ef] at hh' ⊢
    exact x.note all.frs all.ffr fun h₂ x₂ => x₂.land all.ffr fun h₃ x₃ => wpAny_mono (hh' _ x₃) (fun _ _ y => y.mono le₁ fun _ _ z => z) fun _ _ y => y.mono le₁ fun _ _ z => z

theorem XRep.ty {e : Addr} {cls : Value} {k : Kd} {M : Model} (x : XRep fx σ W e cls k s) : Looks M s.heap (typeOf (.ref e)) cls := by
  obtain ⟨_, g, m, news, B, c, f⟩ := x
  obtain ⟨oe, vs, h1, h2, h3⟩ := f.there
  have z : Looks M s.heap (typeOf (.ref e)) oe.cls := (Looks.ld h1).andThen .now
  exact h2 ▸ z

theorem evH_no (all : FxAll fx) {y : Str} {p pos : Pos} {nm : Option Str} {body : List Stmt} {rest : List ExceptHandler} {cls c : Value} {Q : Fl → St → Prop} (hg : fx.pg.gl y = some c) (hk : fx.env.kindOf y = some .globalImplicit) (hd : (y == ("__debug__" : Str)) = false) (hx : exmOne fx.pg.K cls c = some false)
    (h : EvH fx X rest cls σ Q) : EvH fx X (.ExceptHandler (some (.Name y p)) nm body pos :: rest) cls σ Q := by
  intro e W s x
  refine wpAny_handleBy_cons (codeAny_handlers_test (all.glbAt y c p hg hk s _ _ x.stays ((exm_one (all.part.keeps x.stays) x.ty hx).here ?_) hd)) (by intro q; cases q)
  exact h e W s x

/-- the frame, while it handles an exception -/
abbrev fxH (fx : Fx) (e : Addr) : Fx := { fx with A := fx.A.mark (some (.ref e)), qt := false }
theorem fxH_all (all : FxAll fx) (e : Addr) : FxAll (fxH fx e) where
  ok := ⟨all.ok.kind, fun q => by cases q⟩
  locs := all.locs
  cex := all.cex
  cinj := all.cinj
  cdef := all.cdef
  scr := all.scr
  egl := all.egl
  ebu := all.ebu
  top := all.top
  part := all.part
  below := all.below
  dicts := all.dicts
  frs := all.frs
  ffr := all.ffr
  fkd := all.fkd
  depth := all.depth
  room := all.room
  mfn := all.mfn
  envf := all.envf

theorem Rep.toH {e : Addr} (R : Rep fx σ W s) : Rep (fxH fx e) σ W s := Rep.cast (fx := fx) (A := fx.A) (q := fx.qt) R
theorem Rep.ofH {e : Addr} (R : Rep (fxH fx e) σ W s) : Rep fx σ W s := Rep.cast (fx := fx) (A' := fx.A) (q' := fx.qt) R

theorem evH_hit1 (all : FxAll fx) {y n : Str} {p pos : Pos} {b₀ : Stmt} {suite : List Stmt} {rest : List ExceptHandler} {C : Addr} {c : Value} {Q : Fl → St → Prop} (hg : fx.pg.gl y = some c) (hk : fx.env.kindOf y = some .globalImplicit) (hd : (y == ("__debug__" : Str)) = false) (hx : exmOne fx.pg.K (.ref C) c = some true)
    (hL : fx.env.locals = fx.L) (hn : fx.env.kindOf n = some .local)
    (h : ∀ e, EvSs (fxH fx e) X0 (b₀ :: suite) ⟨setN σ.loc n (.ref σ.hp.length), σ.hp ++ [.exn C]⟩ (fun fl σ' => Q fl ⟨fun z => if z = n then none else σ'.loc z, σ'.hp⟩)) : EvH fx X (.ExceptHandler (some (.Name y p)) (some n) (b₀ :: suite) pos :: rest) (.ref C) σ Q := by
  intro e W s x
  refine wpAny_handleBy_cons (codeAny_handlers_test (all.glbAt y c p hg hk s _ _ x.stays ((exm_one (all.part.keeps x.stays) x.ty hx).here ?_) hd)) (by intro q; cases q)
  refine codeAny_handlers_suite_as (x.again all.ffr fun h₁ x₁ => ?_)
  obtain ⟨R₁, v₁⟩ := (x₁.catch all).2 C rfl
  have le₁ : W.le ⟨W.al ++ [e], W.tp, W.sc⟩ := ⟨List.prefix_append _ _, fun _ h => h, rfl⟩
  refine storeVar (fxH_all all e) (x := n) ⟨hL, .inl hn⟩ R₁.toH v₁ fun h₂ tk₂ R₂ => ?_
  refine wpAny_mono (h e _ _ R₂) ?_ fun _ _ y => y.never.elim
  refine fun f s₃ zz => zz.elim fun W₃ σ₃ fl le₃ R₃ r₃ h₃ => ?_
  have R₃' := R₃.ofH
  obtain ⟨_, g, m, news, G, F, N, Co⟩ := id R₃'
  refine wpAny_nameGoes_keeps hn (by rw [hL]; exact F.ns) (by rw [all.ok.kind]; rfl) fun h₄ v hn₄ hs₄ => ?_
  rw [hL] at hn₄ hs₄
  refine ⟨W₃, _, fl, le₁.trans le₃, R₃'.delLoc (x := n) (all.mfn hL) hn _ (fun z hz m' hm' => ?_) hn₄ hs₄, r₃, h₃⟩
  simp only [hz, if_false]
  obtain ⟨o, es, ep, a1, a2, _, a4⟩ := F.ns
  obtain ⟨o', es', ep', b1, b2, _, b4⟩ := hm'
  rw [a1] at b1; cases b1
  rw [a2] at b2; cases b2
  rw [← a4, ← b4]
end
end Mine

set_option autoImplicit false
namespace Mine
open PySem PySem.W PySem.Calls PySem.Spec PyProof.Rows

/-! the rules by which a law is walked -/
structure Cx where
  pg : Pg
  scope : Scope
  ns : List Int
  lev : Nat
  qt : Bool

def okN (x : Str) : Bool := !(x == ("__debug__" : Str)) && !(x == ("__classdict__" : Str))
def relab (sc : Scope) : Scope := { sc with names := sc.names.map fun (n, k) => if k == .free then (n, .cell) else (n, k) }
def compOkB (sc csc : Scope) : Bool := csc.kind == .function && csc.names.all fun y => y.2 != .cell && (y.2 != .local || csc.names.lookup y.1 == some .local) && (y.2 != .free || (csc.names.lookup y.1 == some .free && sc.names.lookup y.1 == some .cell))
def varOk (sc : Scope) (x : Str) : Bool := sc.names.lookup x == some .local || sc.names.lookup x == some .cell
def tgtOk (f : Str → Bool) : Expr → Bool
  | .Name x _ => f x
  | .Tuple es _ _ => es.all fun e => match e with | .Name x _ => f x | _ => false
  | _ => false
def plainT : Expr → Bool
  | .UnaryOp .. | .BoolOp .. | .IfExp .. | .Compare .. => false
  | _ => true
def notSet : Expr → Bool
  | .Set .. => false
  | _ => true


def nmsOk (sc : Scope) : Bool := sc.names.all fun y => okN y.1

structure FxAt (c : Cx) (fx : Fx) : Prop where
  all : FxAll fx
  pg : fx.pg = c.pg
  sc : fx.env.scope = c.scope
  ns : fx.ns = c.ns
  lev : c.lev ≤ fx.lev
  qt : c.qt = true → fx.qt = true
  nk : nmsOk c.scope = true

theorem FxAt.kind {c : Cx} {fx : Fx} (a : FxAt c fx) (x : Str) : fx.env.kindOf x = c.scope.names.lookup x := by
  show fx.env.scope.names.lookup x = _
  rw [a.sc]
theorem FxAt.push {c : Cx} {fx : Fx} (F : FxAt c fx) {ps : List (Addr × Obj)} (a : FxAll (fx.pushL ps)) : FxAt c (fx.pushL ps) := ⟨a, F.pg, F.sc, F.ns, F.lev, F.qt, F.nk⟩
theorem FxAt.units {c : Cx} {fx : Fx} (F : FxAt c fx) : fx.A.units + 64 < cLine := by have := F.all.units; omega
theorem okN_of {x : Str} (h : okN x = true) : (x == ("__debug__" : Str)) = false ∧ (x == ("__classdict__" : Str)) = false := by
  unfold okN at h
  rw [Bool.and_eq_true, Bool.not_eq_true', Bool.not_eq_true'] at h
  exact h

theorem tgt_ok {f : Str → Bool} {t : Expr} {v : V} {bs : List (Str × V)} (h : tgtOk f t = true) (e : tgtV t v = some bs) : ∀ b ∈ bs, f b.1 = true := by
  unfold tgtV at e
  split at e
  · cases e
    intro b hb
    rw [List.mem_singleton.mp hb]
    exact h
  · rename_i es n p
    split at e
    · rename_i vs
      split at e
      · rename_i hlen
        have h' : (es.all fun e => match e with | .Name x _ => f x | _ => false) = true := h
        clear h
        revert vs bs
        induction es with
        | nil =>
          intro bs vs hlen e
          simp at e
          subst e
          exact fun b hb => by cases hb
        | cons e0 es ih =>
          intro bs vs hlen e
          cases vs with
          | nil => simp at hlen
          | cons v vs =>
            rw [List.zip_cons_cons, List.mapM_cons] at e
            rw [List.all_cons, Bool.and_eq_true] at h'
            cases e0 with
            | Name x p =>
              cases hr : ((es.zip vs).mapM nmV) with
              | none => rw [hr] at e; simp [nmV] at e
              | some bs' =>
                rw [hr] at e
                simp [nmV] at e
                subst e
                intro b hb
                rcases List.mem_cons.mp hb with rfl | hb
                · exact h'.1
                · exact ih h'.2 vs (by simpa using hlen) hr b hb
            | _ => simp [nmV] at e
      · cases e
    · cases e
  · cases e

theorem compOk_of {env : Env} {sc csc : Scope} (hs : env.scope = sc) (h : compOkB sc csc = true) : CompOk env csc := by
  unfold compOkB at h
  rw [Bool.and_eq_true, List.all_eq_true] at h
  obtain ⟨h1, h2⟩ := h
  have h3 : ∀ y ∈ csc.names, y.2 ≠ .cell ∧ (y.2 = .local → csc.names.lookup y.1 = some .local) ∧ (y.2 = .free → csc.names.lookup y.1 = some .free ∧ sc.names.lookup y.1 = some .cell) := fun y hy => by
    have := h2 y hy
    simp only [Bool.and_eq_true, Bool.or_eq_true, bne_iff_ne, beq_iff_eq, ne_eq] at this
    exact ⟨this.1.1, fun q => this.1.2.resolve_left fun z => z q, fun q => this.2.resolve_left fun z => z q⟩
  exact ⟨by simpa using h1, fun y hy => (h3 y hy).1, fun y hy => (h3 y hy).2.1, fun y hy q => ((h3 y hy).2.2 q).1, fun n hn => by
    show env.scope.names.lookup n = some .cell
    rw [hs]
    exact ((h3 _ (lookup_mem hn)).2.2 rfl).2⟩

theorem relabel_eq {env : Env} {csc : Scope} (co : CompOk env csc) (hk : env.scope.kind = .function) : relabel csc env = relab csc := by
  unfold relabel relab
  congr 1
  refine List.map_congr_left fun y hy => ?_
  obtain ⟨n, k⟩ := y
  dsimp only
  by_cases q : k = .free
  · subst q
    have := co.free n (co.frees _ hy rfl)
    simp [hk, this]
  · have : (k == NameKind.free) = false := by simpa using q
    simp [this]

theorem folded_of {iter : Expr} (h : notSet iter = true) (env : Env) (x : Value) : foldedSetIterable iter env x = pure x := by
  cases iter <;> first | rfl | cases h


theorem nms_at {sc : Scope} {x : Str} {k : NameKind} (h : nmsOk sc = true) (e : sc.names.lookup x = some k) : okN x = true := List.all_eq_true.mp h _ (lookup_mem e)
theorem FxAt.name {c : Cx} {fx : Fx} (F : FxAt c fx) {x : Str} {k : NameKind} (e : c.scope.names.lookup x = some k) : (x == ("__debug__" : Str)) = false ∧ (x == ("__classdict__" : Str)) = false := okN_of (nms_at F.nk e)
theorem FxAt.okName {c : Cx} {fx : Fx} (F : FxAt c fx) {σ : St} {W : Wd} {s : Shared} (R : Rep fx σ W s) {x : Str} {v : V} (hv : σ.loc x = some v) : (x == ("__debug__" : Str)) = false ∧ (x == ("__classdict__" : Str)) = false := by
  refine R.elim fun _ g m news G Fr N C => ?_
  obtain ⟨u, _, n⟩ := C.loc x v hv
  cases n with
  | loc a _ _ => exact F.name (by rw [← F.kind]; exact a)
  | comp a _ _ => exact F.name (by rw [← F.kind]; exact a)
  | cell a _ _ _ => rcases a with a | a <;> exact F.name (by rw [← F.kind]; exact a)
section
variable {fx : Fx} {X : XP} {σ : St}
theorem CmpT.mono {op : CmpOp} {a b : V} {Q Q' : V → St → Prop} (h : CmpT fx X op a b σ Q) (hq : ∀ v σ', Q v σ' → Q' v σ') : CmpT fx X op a b σ Q' :=
  fun W s u₁ u₂ R r₁ r₂ => wpAny_mono (h W s u₁ u₂ R r₁ r₂) (fun _ _ x => x.mono (.refl _) hq) fun _ _ x => x
theorem TruT.mono {a : V} {Q Q' : Bool → St → Prop} (h : TruT fx X a σ Q) (hq : ∀ v σ', Q v σ' → Q' v σ') : TruT fx X a σ Q' :=
  fun W s u R r => wpAny_mono (h W s u R r) (fun _ _ x => x.mono (.refl _) hq) fun _ _ x => x
theorem EvO.mono' {o : Option Expr} {Q Q' : Option Int → St → Prop} (h : EvO fx X o σ Q) (hq : ∀ v σ', Q v σ' → Q' v σ') : EvO fx X o σ Q' := by
  cases o with
  | none => exact hq _ _ h
  | some e => exact EvE.mono (fx := fx) (X := X) h fun v σ' ⟨k, a, b⟩ => ⟨k, a, hq _ _ b⟩
end
theorem plainT_of {e : Expr} (h : plainT e = true) (env : Env) (whole : Sem Value) : isTrue e env whole = (do let v ← whole; standAt e.pos; holding [v] (truthy v)) := by
  cases e <;> first | rfl | cases h


theorem isVar_of {c : Cx} {fx : Fx} (F : FxAt c fx) (hL : fx.env.locals = fx.L) {x : Str} (h : varOk c.scope x = true) : isVar fx x := by
  refine ⟨hL, ?_⟩
  rw [F.kind]
  simpa [varOk] using h

abbrev Lo := Str → Option V
abbrev KV := V → Lo → List O → Prop
abbrev KB := Bool → Lo → List O → Prop
abbrev KF := Fl → Lo → List O → Prop
abbrev KI := List V → (St → Prop) → Lo → List O → Prop
@[irreducible] def E (c : Cx) (X : XP) (e : Expr) (l : Lo) (hp : List O) (K : KV) : Prop := ∀ fx, FxAt c fx → EvE fx X e ⟨l, hp⟩ fun v σ => K v σ.loc σ.hp
@[irreducible] def Es (c : Cx) (X : XP) (es : List Expr) (l : Lo) (hp : List O) (K : List V → Lo → List O → Prop) : Prop := ∀ fx, FxAt c fx → EvEs fx X es ⟨l, hp⟩ fun v σ => K v σ.loc σ.hp
@[irreducible] def EL (c : Cx) (X : XP) (op : BoolOp) (es : List Expr) (l : Lo) (hp : List O) (K : KV) : Prop := ∀ fx, FxAt c fx → ∀ pos, EvE fx X (.BoolOp op es pos) ⟨l, hp⟩ fun v σ => K v σ.loc σ.hp
@[irreducible] def B (c : Cx) (X : XP) (e : Expr) (l : Lo) (hp : List O) (K : KB) : Prop := ∀ fx, FxAt c fx → EvB fx X e ⟨l, hp⟩ fun v σ => K v σ.loc σ.hp
@[irreducible] def BL (c : Cx) (X : XP) (op : BoolOp) (es : List Expr) (l : Lo) (hp : List O) (K : KB) : Prop := ∀ fx, FxAt c fx → ∀ pos, EvB fx X (.BoolOp op es pos) ⟨l, hp⟩ fun v σ => K v σ.loc σ.hp
@[irreducible] def I (c : Cx) (X : XP) (e : Expr) (l : Lo) (hp : List O) (P : KI) : Prop := ∀ fx, FxAt c fx → IterT fx X e ⟨l, hp⟩ fun its need σ => P its need σ.loc σ.hp
@[irreducible] def S (c : Cx) (X : XP) (st : Stmt) (l : Lo) (hp : List O) (K : KF) : Prop := ∀ fx, FxAt c fx → fx.env.locals = fx.L → EvS fx X st ⟨l, hp⟩ fun v σ => K v σ.loc σ.hp
@[irreducible] def Ss (c : Cx) (X : XP) (ss : List Stmt) (l : Lo) (hp : List O) (K : KF) : Prop := ∀ fx, FxAt c fx → fx.env.locals = fx.L → EvSs fx X ss ⟨l, hp⟩ fun v σ => K v σ.loc σ.hp
@[irreducible] def Bin (c : Cx) (X : XP) (op : Operator) (a b : V) (l : Lo) (hp : List O) (K : KV) : Prop := ∀ fx, FxAt c fx → BinT fx X op a b ⟨l, hp⟩ fun v σ => K v σ.loc σ.hp
@[irreducible] def Un (c : Cx) (X : XP) (op : UnaryOp) (a : V) (l : Lo) (hp : List O) (K : KV) : Prop := ∀ fx, FxAt c fx → UnT fx X op a ⟨l, hp⟩ fun v σ => K v σ.loc σ.hp
@[irreducible] def Cmp (c : Cx) (X : XP) (op : CmpOp) (a b : V) (l : Lo) (hp : List O) (K : KV) : Prop := ∀ fx, FxAt c fx → CmpT fx X op a b ⟨l, hp⟩ fun v σ => K v σ.loc σ.hp
@[irreducible] def Tru (c : Cx) (X : XP) (a : V) (l : Lo) (hp : List O) (K : KB) : Prop := ∀ fx, FxAt c fx → TruT fx X a ⟨l, hp⟩ fun v σ => K v σ.loc σ.hp
@[irreducible] def CB (c : Cx) (X : XP) (id : String) (vs : List V) (l : Lo) (hp : List O) (K : KV) : Prop := ∀ fx, FxAt c fx → CallT fx X (.builtin id) vs ⟨l, hp⟩ fun v σ => K v σ.loc σ.hp
@[irreducible] def CT (c : Cx) (X : XP) (T : String) (vs : List V) (l : Lo) (hp : List O) (K : KV) : Prop := ∀ fx, FxAt c fx → CallT fx X (.type T) vs ⟨l, hp⟩ fun v σ => K v σ.loc σ.hp
@[irreducible] def Sub (c : Cx) (X : XP) (o i : V) (l : Lo) (hp : List O) (K : KV) : Prop := ∀ fx, FxAt c fx → ∀ value slice, notSlice slice = true → SubT fx X value slice o i ⟨l, hp⟩ fun v σ => K v σ.loc σ.hp
@[irreducible] def Set' (c : Cx) (X : XP) (o i v : V) (l : Lo) (hp : List O) (K : Lo → List O → Prop) : Prop := ∀ fx, FxAt c fx → SetT fx X o i v ⟨l, hp⟩ fun σ => K σ.loc σ.hp
@[irreducible] def Srv (c : Cx) (v : V) (l : Lo) (hp : List O) (P : KI) : Prop := ∀ fx, FxAt c fx → SrvT fx v ⟨l, hp⟩ fun its need σ => P its need σ.loc σ.hp
@[irreducible] def Opt (c : Cx) (X : XP) (o : Option Expr) (l : Lo) (hp : List O) (K : Option Int → Lo → List O → Prop) : Prop := ∀ fx, FxAt c fx → EvO fx X o ⟨l, hp⟩ fun v σ => K v σ.loc σ.hp
@[irreducible] def Slc (o : V) (a b : Option Int) (l : Lo) (hp : List O) (K : KV) : Prop := SliceV o a b ⟨l, hp⟩ fun v σ => K v σ.loc σ.hp
@[irreducible] def Sz (vs : List V) (P : Prop) : Prop := vs.length ≤ sizeLine ∧ P
@[irreducible] def If (b : Bool) (P Q : Prop) : Prop := if b then P else Q
@[irreducible] def Lst (ov : V) (hp : List O) (P : Nat → Prop) : Prop := ∃ i vs, ov = .ref i ∧ hp[i]? = some (.list vs) ∧ P i
@[irreducible] def Rng (vs : List V) (P : List V → Prop) : Prop := RngP vs P
@[irreducible] def Hd (c : Cx) (X : XP) (hs : List ExceptHandler) (cls : Value) (l : Lo) (hp : List O) (K : KF) : Prop := ∀ fx, FxAt c fx → fx.env.locals = fx.L → EvH fx X hs cls ⟨l, hp⟩ fun v σ => K v σ.loc σ.hp
/-- what is asked at the side of a step -/
structure Side (P : Prop) : Prop where
  h : P
structure CxIs (c : Cx) (pg : Pg) (sc : Scope) (ns : List Int) (lev : Nat) (qt : Bool) : Prop where
  eq : c = ⟨pg, sc, ns, lev, qt⟩
section
variable {c : Cx} {X : XP} {l : Lo} {hp : List O} {K : KV} {p q r : Pos} {pg : Pg} {sc : Scope} {ns : List Int} {lev : Nat} {qt : Bool}

theorem e_int {i : Int} {k : Nat} (h : K (.int i) l hp) : E c X (.Constant (.int i) k p) l hp K := by unfold E; exact fun _ _ => evConstInt h
theorem e_str {i : Str} {k : Nat} (h : K (.str i) l hp) : E c X (.Constant (.str i) k p) l hp K := by unfold E; exact fun _ _ => evConstStr h
theorem e_bool {i : Bool} {k : Nat} (h : K (.bool i) l hp) : E c X (.Constant (.bool i) k p) l hp K := by unfold E; exact fun _ _ => evConstBool h
theorem e_none {k : Nat} (h : K .none l hp) : E c X (.Constant .none k p) l hp K := by unfold E; exact fun _ _ => evConstNone h
theorem e_name {x : Str} {v : V} (e : l x = some v) (h : K v l hp) : E c X (.Name x p) l hp K := by
  unfold E
  exact fun fx F W s R => evName F.all.ok e h (F.okName R e).1 (F.okName R e).2 W s R
theorem e_glob {x : Str} {v : Value} (hc : CxIs c pg sc ns lev qt) (k : sc.names.lookup x = some .globalImplicit) (g : pg.gl x = some v) (h : K (gV v) l hp) : E c X (.Name x p) l hp K := by
  obtain ⟨rfl⟩ := hc
  unfold E
  exact fun fx F => evGlob F.all (by rw [F.pg]; exact g) (by rw [F.kind]; exact k) (F.name k).1 h
theorem e_bin {a b : Expr} {op : Operator} (h : E c X a l hp fun v l hp => E c X b l hp fun w l hp => Bin c X op v w l hp K) : E c X (.BinOp a op b p) l hp K := by
  unfold E Bin at *
  exact fun fx F => evBin ((h fx F).mono fun v σ h₁ => (h₁ fx F).mono fun w σ' h₂ => h₂ fx F)
theorem e_un {a : Expr} {op : UnaryOp} (h : E c X a l hp fun v l hp => Un c X op v l hp K) : E c X (.UnaryOp op a p) l hp K := by
  unfold E Un at *
  exact fun fx F => evUn ((h fx F).mono fun v σ h₁ => h₁ fx F)
theorem e_boolop {op : BoolOp} {vs : List Expr} (h : EL c X op vs l hp K) : E c X (.BoolOp op vs p) l hp K := by
  unfold E EL at *
  exact fun fx F => h fx F p
theorem el_one {op : BoolOp} {e : Expr} (h : E c X e l hp K) : EL c X op [e] l hp K := by
  unfold E EL at *
  exact fun fx F _ => evBoolOne (h fx F)
theorem el_and {e e' : Expr} {r : List Expr} (h : E c X e l hp fun v l hp => Tru c X v l hp fun b l hp => If b (EL c X .And (e' :: r) l hp K) (K v l hp)) : EL c X .And (e :: e' :: r) l hp K := by
  unfold E EL Tru If at *
  refine fun fx F pos => evAnd ((h fx F).mono fun v σ h₁ => (h₁ fx F).mono fun b σ' h₂ => ?_)
  cases b with
  | true => exact h₂ fx F pos
  | false => exact h₂
theorem e_cmp {a b : Expr} {op : CmpOp} (hm : behindInMarks op b = false) (h : E c X a l hp fun v l hp => E c X b l hp fun w l hp => Cmp c X op v w l hp K) : E c X (.Compare a [op] [b] p) l hp K := by
  unfold E Cmp at *
  exact fun fx F => evCmp1 ((h fx F).mono fun v σ h₁ => (h₁ fx F).mono fun w σ' h₂ => h₂ fx F) hm
theorem e_cmp2 {a b d : Expr} {op₁ op₂ : CmpOp} (hm : lastMarks [op₁, op₂] [b, d] = false) (h : E c X a l hp fun v l hp => E c X b l hp fun w l hp => Cmp c X op₁ v w l hp fun r l hp => Tru c X r l hp fun t l hp => If t (E c X d l hp fun f l hp => Cmp c X op₂ w f l hp K) (K r l hp)) :
    E c X (.Compare a [op₁, op₂] [b, d] p) l hp K := by
  unfold E Cmp Tru If at *
  refine fun fx F => evCmp2 ((h fx F).mono fun v σ h₁ => (h₁ fx F).mono fun w σ' h₂ => (h₂ fx F).mono fun r σ'' h₃ => (h₃ fx F).mono fun t σ₄ h₄ => ?_) hm
  cases t with
  | true => exact (h₄ fx F).mono fun f σ₅ h₅ => h₅ fx F
  | false => exact h₄
theorem e_callB {f : Str} {a : Expr} {args : List Expr} {id : String} (hc : CxIs c pg sc ns lev qt) (g : pg.gl f = some (.builtin id)) (k : sc.names.lookup f = some .globalImplicit) (st : (a :: args).all noStar = true) (h : Es c X (a :: args) l hp fun vs l hp => CB c X id vs l hp K) : E c X (.Call (.Name f q) (a :: args) [] p) l hp K := by
  obtain ⟨rfl⟩ := hc
  unfold E
  unfold Es CB at h
  exact fun fx F => evCallB F.all (by rw [F.pg]; exact g) (by rw [F.kind]; exact k) (F.name k).1 st ((h fx F).mono fun vs σ h₁ => h₁ fx F)
theorem e_callT {f : Str} {a : Expr} {args : List Expr} {T : String} (hc : CxIs c pg sc ns lev qt) (g : pg.gl f = some (.type T)) (k : sc.names.lookup f = some .globalImplicit) (st : (a :: args).all noStar = true) (h : Es c X (a :: args) l hp fun vs l hp => CT c X T vs l hp K) : E c X (.Call (.Name f q) (a :: args) [] p) l hp K := by
  obtain ⟨rfl⟩ := hc
  unfold E
  unfold Es CT at h
  exact fun fx F => evCallTy F.all (by rw [F.pg]; exact g) (by rw [F.kind]; exact k) (F.name k).1 st ((h fx F).mono fun vs σ h₁ => h₁ fx F)
theorem e_callF {f : Str} {a : Expr} {args : List Expr} {d : Addr} (hc : CxIs c pg sc ns lev qt) (g : pg.gl f = some (.ref d)) (i : fnIn pg.K d = true) (k : sc.names.lookup f = some .globalImplicit) (st : (a :: args).all noStar = true) (h : Es c X (a :: args) l hp fun vs l hp => CallOK pg lev qt ns d vs hp (fun d hp' => X d ⟨l, hp'⟩) (fun v hp' => K v l hp')) : E c X (.Call (.Name f q) (a :: args) [] p) l hp K := by
  obtain ⟨rfl⟩ := hc
  unfold E
  unfold Es at h
  exact fun fx F => evCallF F.all (by rw [F.pg]; exact g) (by rw [F.kind]; exact k) (F.name k).1 (by rw [F.pg]; exact i) st ((h fx F).mono fun vs σ h₁ => callT_of (qt := qt) F.all F.lev F.qt (by rw [F.pg, F.ns]; exact h₁))
theorem lst_ref {i : Nat} {vs : List V} {P : Nat → Prop} (e : hp[i]? = some (.list vs)) (h : P i) : Lst (.ref i) hp P := by
  unfold Lst
  exact ⟨i, vs, rfl, e, h⟩
theorem e_append {o a : Expr} (hb : baseOk o = true) (ha : [a].all noStar = true) (hl : (q.endLine == p.line) = true) (h : E c X o l hp fun ov l₁ hp₁ => Lst ov hp₁ fun i => Es c X [a] l₁ hp₁ fun vs l hp => CB c X "list.append" (.ref i :: vs) l hp K) : E c X (.Call (.Attribute o "append" q) [a] [] p) l hp K := by
  unfold E Lst Es CB at *
  refine fun fx F => evMeth hb ha (by simp) hl ((h fx F).mono fun ov σ h₁ => ?_)
  obtain ⟨i, vs, rfl, e, h₂⟩ := h₁
  exact ⟨_, getM_list e PySem.F.slot_list_append PySem.F.type_list_append, (h₂ fx F).mono fun vs σ h₃ => h₃ fx F⟩
theorem e_pop {o : Expr} (hb : baseOk o = true) (hl : (q.endLine == p.line) = true) (h : E c X o l hp fun ov l₁ hp₁ => Lst ov hp₁ fun i => CB c X "list.pop" [.ref i] l₁ hp₁ K) : E c X (.Call (.Attribute o "pop" q) [] [] p) l hp K := by
  unfold E Lst CB at *
  refine fun fx F => evMeth hb rfl (by decide) hl ((h fx F).mono fun ov σ h₁ => ?_)
  obtain ⟨i, vs, rfl, e, h₂⟩ := h₁
  exact ⟨_, getM_list e PySem.F.slot_list_pop PySem.F.type_list_pop, evEs_nil (h₂ fx F)⟩
theorem e_sub {a b : Expr} (nsl : notSlice b = true) (h : E c X a l hp fun v l hp => E c X b l hp fun w l hp => Sub c X v w l hp K) : E c X (.Subscript a b p) l hp K := by
  unfold E Sub at *
  exact fun fx F => evSub ((h fx F).mono fun v σ h₁ => (h₁ fx F).mono fun w σ' h₂ => h₂ fx F a b nsl)
theorem e_slice {x : Str} {lo hi : Option Expr} (h : E c X (.Name x q) l hp fun o l hp => Opt c X lo l hp fun a l hp => Opt c X hi l hp fun b l hp => Slc o a b l hp K) : E c X (.Subscript (.Name x q) (.Slice lo hi none r) p) l hp K := by
  unfold E Opt Slc at *
  exact fun fx F => evSlice ((h fx F).mono fun o σ h₁ => (h₁ fx F).mono' fun a σ' h₂ => (h₂ fx F).mono' fun b σ'' h₃ => h₃)
theorem opt_none {K : Option Int → Lo → List O → Prop} (h : K none l hp) : Opt c X none l hp K := by unfold Opt; exact fun _ _ => h
theorem opt_some {e : Expr} {K : Option Int → Lo → List O → Prop} (h : E c X e l hp fun v l hp => ∃ k, v = .int k ∧ K (some k) l hp) : Opt c X (some e) l hp K := by
  unfold Opt
  unfold E at h
  exact fun fx F => h fx F
theorem slc_ref {i : Nat} {vs : List V} {a b : Option Int} (e : hp[i]? = some (.list vs)) (s : Side (vs.length ≤ sizeLine)) (h : K (.ref hp.length) l (hp ++ [.list (pickV vs a b)])) : Slc (.ref i) a b l hp K := by
  unfold Slc
  exact ⟨i, vs, rfl, ⟨e, s.h⟩, h⟩
theorem sz {vs : List V} {P : Prop} (s : Nat.ble vs.length 1000 = true) (h : P) : Sz vs P := by
  unfold Sz
  exact ⟨Nat.le_trans (Nat.le_of_ble_eq_true s) (by rw [sizeLine_eq]; decide), h⟩
theorem e_tuple {es : List Expr} {k : Nat} (h : Es c X es l hp fun vs l hp => Sz vs (K (.tup vs) l hp)) : E c X (.Tuple es k p) l hp K := by
  unfold E
  unfold Es Sz at h
  exact fun fx F => evTuple (h fx F)
theorem e_list {es : List Expr} (h : Es c X es l hp fun vs l hp => Sz vs (K (.ref hp.length) l (hp ++ [.list vs]))) : E c X (.List es p) l hp K := by
  unfold E
  unfold Es Sz at h
  exact fun fx F => evList (h fx F)
theorem es_nil {K : List V → Lo → List O → Prop} (h : K [] l hp) : Es c X [] l hp K := by unfold Es; exact fun _ _ => evEs_nil h
theorem es_cons {K : List V → Lo → List O → Prop} {e : Expr} {r : List Expr} (s : noStar e = true) (h : E c X e l hp fun v l hp => Es c X r l hp fun vs l hp => K (v :: vs) l hp) : Es c X (e :: r) l hp K := by
  unfold E Es at *
  exact fun fx F => evEs_cons ((h fx F).mono fun v σ h₁ => h₁ fx F) (star_cons s _)

theorem bin_add {x y : Int} (h : K (.int (x + y)) l hp) : Bin c X .Add (.int x) (.int y) l hp K := by unfold Bin; exact fun _ _ => bin_addT h
theorem bin_sub {x y : Int} (h : K (.int (x - y)) l hp) : Bin c X .Sub (.int x) (.int y) l hp K := by unfold Bin; exact fun _ _ => bin_subT h
theorem bin_mul {x y : Int} (s : Side (x.natAbs < 2 ^ 64 ∨ y.natAbs < 2 ^ 64)) (h : K (.int (x * y)) l hp) : Bin c X .Mult (.int x) (.int y) l hp K := by unfold Bin; exact fun _ _ => bin_mulT s.h h
theorem bin_mod {x y : Int} (s : Side (0 < y)) (h : K (.int (x % y)) l hp) : Bin c X .Mod (.int x) (.int y) l hp K := by unfold Bin; exact fun _ _ => bin_modT s.h h
theorem bin_div {x y : Int} (s : Side (0 < y ∧ y < 2 ^ 30)) (h : K (.int (x / y)) l hp) : Bin c X .FloorDiv (.int x) (.int y) l hp K := by unfold Bin; exact fun _ _ => bin_divT s.h.1 s.h.2 h
theorem bin_pow {x y : Int} (s : Side (0 ≤ y ∧ y ≤ 1000000 ∧ x.natAbs < 2 ^ 64)) (h : K (.int (x ^ y.toNat)) l hp) : Bin c X .Pow (.int x) (.int y) l hp K := by unfold Bin; exact fun _ _ => bin_powT s.h h
theorem bin_pow18 (h : K (.int 1000000000000000000) l hp) : Bin c X .Pow (.int 10) (.int 18) l hp K := bin_pow ⟨by decide⟩ h
theorem bin_lists {i j : Nat} {vs ws : List V} (e : hp[i]? = some (.list vs)) (e' : hp[j]? = some (.list ws)) (s : Side (vs.length + ws.length ≤ sizeLine)) (h : K (.ref hp.length) l (hp ++ [.list (vs ++ ws)])) : Bin c X .Add (.ref i) (.ref j) l hp K := by unfold Bin; exact fun _ _ => bin_listsT e e' s.h h
theorem un_not {v : V} (h : Tru c X v l hp fun b l hp => K (.bool (!b)) l hp) : Un c X .Not v l hp K := by unfold Un; unfold Tru at h; exact fun fx F => un_notT (h fx F)
theorem un_neg {x : Int} (h : K (.int (-x)) l hp) : Un c X .USub (.int x) l hp K := by unfold Un; exact fun _ _ => un_negT h
theorem cmp_lt {x y : Int} (h : K (.bool (decide (x < y))) l hp) : Cmp c X .Lt (.int x) (.int y) l hp K := by unfold Cmp; exact fun _ _ => cmp_ltT h
theorem cmp_gt {x y : Int} (h : K (.bool (decide (y < x))) l hp) : Cmp c X .Gt (.int x) (.int y) l hp K := by unfold Cmp; exact fun _ _ => cmp_gtT h
theorem cmp_le {x y : Int} (h : K (.bool (decide (x ≤ y))) l hp) : Cmp c X .LtE (.int x) (.int y) l hp K := by unfold Cmp; exact fun _ _ => cmp_leT h
theorem cmp_ge {x y : Int} (h : K (.bool (decide (y ≤ x))) l hp) : Cmp c X .GtE (.int x) (.int y) l hp K := by unfold Cmp; exact fun _ _ => cmp_geT h
theorem cmp_deq {x y : V} {dx dy : PyData} (h1 : Dat hp x dx) (h2 : Dat hp y dy) (h3 : PySem.SeqAt.shaped dx = true) (h4 : PySem.SeqAt.shaped dy = true) (h : K (.bool (PyData.eqv dx dy)) l hp) : Cmp c X .Eq x y l hp K := by unfold Cmp; exact fun fx F => cmp_eqT F.units h1 h2 h3 h4 h
theorem cmp_dne {x y : V} {dx dy : PyData} (h1 : Dat hp x dx) (h2 : Dat hp y dy) (h3 : PySem.SeqAt.shaped dx = true) (h4 : PySem.SeqAt.shaped dy = true) (h : K (.bool (!PyData.eqv dx dy)) l hp) : Cmp c X .NotEq x y l hp K := by unfold Cmp; exact fun fx F => cmp_neT F.units h1 h2 h3 h4 h
theorem eqv_int (x y : Int) : PyData.eqv (.int x) (.int y) = decide (x = y) := by simp [PyData.eqv]; rfl
theorem cmp_eq {x y : Int} (h : K (.bool (decide (x = y))) l hp) : Cmp c X .Eq (.int x) (.int y) l hp K := cmp_deq (.int x) (.int y) rfl rfl (by rw [eqv_int]; exact h)
theorem cmp_ne {x y : Int} (h : K (.bool (!decide (x = y))) l hp) : Cmp c X .NotEq (.int x) (.int y) l hp K := cmp_dne (.int x) (.int y) rfl rfl (by rw [eqv_int]; exact h)
theorem str_shaped {x : Str} (s : PyData.strOk x = true) : PySem.SeqAt.shaped (.str x) = true := by simp [PySem.SeqAt.shaped, PyData.canLay0, s, PyData.depth]
theorem cmp_str_eq {x : Str} (s : PyData.strOk x = true) (h : K (.bool true) l hp) : Cmp c X .Eq (.str x) (.str x) l hp K := cmp_deq (.str x) (.str x) (str_shaped s) (str_shaped s) (by simpa [PyData.eqv] using h)
theorem cmp_is_nn (h : K (.bool true) l hp) : Cmp c X .Is .none .none l hp K := by unfold Cmp; exact fun _ _ => (is_plainT is_nn).1 h
theorem cmp_is_vn {v : V} (s : someV v = true) (h : K (.bool false) l hp) : Cmp c X .Is v .none l hp K := by unfold Cmp; exact fun _ _ => (is_plainT (is_vn s)).1 h
theorem cmp_isn_nn (h : K (.bool false) l hp) : Cmp c X .IsNot .none .none l hp K := by unfold Cmp; exact fun _ _ => (is_plainT is_nn).2 h
theorem tru_bool {b : Bool} {K : KB} (h : K b l hp) : Tru c X (.bool b) l hp K := by unfold Tru; exact fun _ _ => tru_boolT h
theorem cb_len_ref {i : Nat} {vs : List V} (e : hp[i]? = some (.list vs)) (s : Side (vs.length < 2 ^ 63)) (h : K (.int vs.length) l hp) : CB c X "len" [.ref i] l hp K := by unfold CB; exact fun _ _ => len_refT e s.h h
theorem cb_len_tup {vs : List V} (s : Nat.ble (vs.length + 1) (2 ^ 63) = true) (h : K (.int vs.length) l hp) : CB c X "len" [.tup vs] l hp K := by unfold CB; exact fun _ _ => len_tupT (Nat.le_of_ble_eq_true s) h
theorem cb_len_scr (hc : CxIs c pg sc ns lev qt) (h : K (.int ns.length) l hp) : CB c X "len" [.scr] l hp K := by
  obtain ⟨rfl⟩ := hc
  unfold CB
  exact fun fx F => len_scrT F.all (by rw [F.ns]; exact h)
theorem cb_all {i : Nat} {bs : List Bool} (hc : CxIs c pg sc ns lev true) (e : hp[i]? = some (.list (bs.map .bool))) (h : K (.bool (bs.all id)) l hp) : CB c X "all" [.ref i] l hp K := by
  obtain ⟨rfl⟩ := hc
  unfold CB
  exact fun fx F => (all_any F.all (F.qt rfl) e).1 h
theorem isi_ii {a : Int} (h : K (.bool true) l hp) : CB c X "isinstance" [.int a, .glob (.type "int")] l hp K := by unfold CB; exact fun _ _ => isi_of (fun W s u Q E R r q => by cases r; exact IsiPair.int_int (q _)) h
theorem isi_ib {a : Int} (h : K (.bool false) l hp) : CB c X "isinstance" [.int a, .glob (.type "bool")] l hp K := by unfold CB; exact fun _ _ => isi_of (fun W s u Q E R r q => by cases r; exact IsiPair.int_bool (q _)) h
theorem isi_bi {a : Bool} (h : K (.bool true) l hp) : CB c X "isinstance" [.bool a, .glob (.type "int")] l hp K := by unfold CB; exact fun _ _ => isi_of (fun W s u Q E R r q => by cases r; exact IsiPair.bool_int (q _)) h
theorem isi_bb {a : Bool} (h : K (.bool true) l hp) : CB c X "isinstance" [.bool a, .glob (.type "bool")] l hp K := by unfold CB; exact fun _ _ => isi_of (fun W s u Q E R r q => by cases r; exact IsiPair.bool_bool (q _)) h
theorem isi_ni (h : K (.bool false) l hp) : CB c X "isinstance" [.none, .glob (.type "int")] l hp K := by unfold CB; exact fun _ _ => isi_of (fun W s u Q E R r q => by cases r; exact IsiPair.NoneType_int (q _)) h
theorem isi_si {a : Str} (h : K (.bool false) l hp) : CB c X "isinstance" [.str a, .glob (.type "int")] l hp K := by unfold CB; exact fun _ _ => isi_of (fun W s u Q E R r q => by cases r; exact IsiPair.str_int (q _)) h
theorem isi_tt {a : List V} (h : K (.bool true) l hp) : CB c X "isinstance" [.tup a, .glob (.type "tuple")] l hp K := by unfold CB; exact fun _ _ => isi_of (fun W s u Q E R r q => by obtain ⟨_, _, rfl, h2, _⟩ := R.tup_at r; exact isi_tup h2 rfl (by simp) q) h
theorem isi_ti {a : List V} (h : K (.bool false) l hp) : CB c X "isinstance" [.tup a, .glob (.type "int")] l hp K := by unfold CB; exact fun _ _ => isi_of (fun W s u Q E R r q => by obtain ⟨_, _, rfl, h2, _⟩ := R.tup_at r; exact isi_tup h2 rfl (by simp) q) h
theorem isi_rl {i : Nat} {vs : List V} (e : hp[i]? = some (.list vs)) (h : K (.bool true) l hp) : CB c X "isinstance" [.ref i, .glob (.type "list")] l hp K := by unfold CB; exact fun _ _ => isi_of (fun W s u Q E R r q => by obtain ⟨_, _, _, rfl, _, h2, _⟩ := R.list_at e r; exact isi_list h2 rfl (by simp) q) h
theorem isi_ri {i : Nat} {vs : List V} (e : hp[i]? = some (.list vs)) (h : K (.bool false) l hp) : CB c X "isinstance" [.ref i, .glob (.type "int")] l hp K := by unfold CB; exact fun _ _ => isi_of (fun W s u Q E R r q => by obtain ⟨_, _, _, rfl, _, h2, _⟩ := R.list_at e r; exact isi_list h2 rfl (by simp) q) h
theorem cb_append {i : Nat} {vs : List V} {v : V} (e : hp[i]? = some (.list vs)) (s : Side (vs.length ≤ sizeLine)) (h : K .none l (hp.set i (.list (vs ++ [v])))) : CB c X "list.append" [.ref i, v] l hp K := by unfold CB; exact fun _ _ => append_ok e s.h h
theorem cb_pop {i : Nat} {ws : List V} {v : V} (e : hp[i]? = some (.list (ws ++ [v]))) (s : Side (ws.length < sizeLine)) (h : K v l (hp.set i (.list ws))) : CB c X "list.pop" [.ref i] l hp K := by unfold CB; exact fun _ _ => pop_ok e s.h h
theorem ct_int {b : Bool} (h : K (.int (if b then 1 else 0)) l hp) : CT c X "int" [.bool b] l hp K := by unfold CT; exact fun _ _ => intBool_ok h
theorem ct_list_ref {i : Nat} {vs : List V} (e : hp[i]? = some (.list vs)) (s : Side (vs.length ≤ sizeLine)) (h : K (.ref hp.length) l (hp ++ [.list vs])) : CT c X "list" [.ref i] l hp K := by unfold CT; exact fun _ _ => listOf_ok (.inl ⟨_, rfl, e⟩) s.h h

theorem getI_nat {xs : List V} {k : Int} {v : V} (s : 0 ≤ k) (e : xs[k.toNat]? = some v) : getI xs k = some v := by
  unfold getI
  rw [if_pos s]
  exact e
theorem sb_ref {i : Nat} {xs : List V} {k : Int} {v : V} (e : hp[i]? = some (.list xs)) (s : Side (0 ≤ k ∧ k < 2 ^ 63)) (g : xs[k.toNat]? = some v) (h : K v l hp) : Sub c X (.ref i) (.int k) l hp K := by
  unfold Sub
  exact fun _ _ _ _ nsl => sub_list nsl e ⟨by have := s.h; omega, s.h.2⟩ (getI_nat s.h.1 g) h
theorem sb_tup {xs : List V} {k : Int} {v : V} (s : Side (0 ≤ k ∧ k < 2 ^ 63)) (g : xs[k.toNat]? = some v) (h : K v l hp) : Sub c X (.tup xs) (.int k) l hp K := by
  unfold Sub
  exact fun _ _ _ _ nsl => sub_tup nsl ⟨by have := s.h; omega, s.h.2⟩ (getI_nat s.h.1 g) h
theorem sb_scr {k : Int} {x : Int} (hc : CxIs c pg sc ns lev qt) (s : Side (0 ≤ k)) (g : ns[k.toNat]? = some x) (h : K (.int x) l hp) : Sub c X .scr (.int k) l hp K := by
  obtain ⟨rfl⟩ := hc
  unfold Sub
  exact fun fx F _ _ nsl => sub_scr F.all nsl s.h (by rw [F.ns]; exact g) h
theorem st_ref {i : Nat} {xs : List V} {k : Int} {v : V} {K : Lo → List O → Prop} (e : hp[i]? = some (.list xs)) (s : Side (0 ≤ k ∧ k < xs.length ∧ k < 2 ^ 63)) (h : K l (hp.set i (.list (xs.set k.toNat v)))) : Set' c X (.ref i) (.int k) v l hp K := by
  unfold Set'
  exact fun _ _ => set_list e s.h.1 s.h.2.1 s.h.2.2 h

theorem b_not {e : Expr} {K : KB} (h : B c X e l hp fun b l hp => K (!b) l hp) : B c X (.UnaryOp .Not e p) l hp K := by
  unfold B at *
  exact fun fx F => evB_not (h fx F)
theorem b_boolop {op : BoolOp} {es : List Expr} {K : KB} (h : BL c X op es l hp K) : B c X (.BoolOp op es p) l hp K := by
  unfold B BL at *
  exact fun fx F => h fx F p
theorem bl_and_nil {K : KB} (h : K true l hp) : BL c X .And [] l hp K := by unfold BL; exact fun _ _ _ => evB_and_nil h
theorem bl_or_nil {K : KB} (h : K false l hp) : BL c X .Or [] l hp K := by unfold BL; exact fun _ _ _ => evB_or_nil h
theorem bl_and {e : Expr} {r : List Expr} {K : KB} (h : B c X e l hp fun b l hp => If b (BL c X .And r l hp K) (K false l hp)) : BL c X .And (e :: r) l hp K := by
  unfold B BL If at *
  refine fun fx F pos => evB_and ((h fx F).mono fun b σ h₁ => ?_)
  cases b with
  | true => exact h₁ fx F pos
  | false => exact h₁
theorem bl_or {e : Expr} {r : List Expr} {K : KB} (h : B c X e l hp fun b l hp => If b (K true l hp) (BL c X .Or r l hp K)) : BL c X .Or (e :: r) l hp K := by
  unfold B BL If at *
  refine fun fx F pos => evB_or ((h fx F).mono fun b σ h₁ => ?_)
  cases b with
  | true => exact h₁
  | false => exact h₁ fx F pos
theorem b_cmp {a b : Expr} {op : CmpOp} {K : KB} (hm : behindInMarks op b = false) (h : E c X a l hp fun v l hp => E c X b l hp fun w l hp => Cmp c X op v w l hp fun r l hp => Tru c X r l hp K) : B c X (.Compare a [op] [b] p) l hp K := by
  unfold B
  unfold E Cmp Tru at h
  exact fun fx F => evB_cmp1 ((h fx F).mono fun v σ h₁ => (h₁ fx F).mono fun w σ' h₂ => (h₂ fx F).mono fun r σ'' h₃ => h₃ fx F) hm
theorem b_cmp2 {a b d : Expr} {op₁ op₂ : CmpOp} {K : KB} (hm : lastMarks [op₁, op₂] [b, d] = false) (h : E c X a l hp fun v l hp => E c X b l hp fun w l hp => Cmp c X op₁ v w l hp fun r l hp => Tru c X r l hp fun t l hp => If t (E c X d l hp fun f l hp => Cmp c X op₂ w f l hp fun r l hp => Tru c X r l hp K) (K false l hp)) :
    B c X (.Compare a [op₁, op₂] [b, d] p) l hp K := by
  unfold B
  unfold E Cmp Tru If at h
  refine fun fx F => evB_cmp2 ((h fx F).mono fun v σ h₁ => (h₁ fx F).mono fun w σ' h₂ => (h₂ fx F).mono fun r σ'' h₃ => (h₃ fx F).mono fun t σ₄ h₄ => ?_) hm
  cases t with
  | true => exact (h₄ fx F).mono fun f σ₅ h₅ => (h₅ fx F).mono fun r σ₆ h₆ => h₆ fx F
  | false => exact h₄
theorem b_plain {e : Expr} {K : KB} (k : plainT e = true) (h : E c X e l hp fun v l hp => Tru c X v l hp K) : B c X e l hp K := by
  unfold B
  unfold E Tru at h
  exact fun fx F => evB_plain ((h fx F).mono fun v σ h₁ => h₁ fx F) (plainT_of k)
theorem if_b {b : Bool} {P Q : Prop} (h : b = true → P) (h' : b = false → Q) : If b P Q := by
  unfold If
  cases b
  · exact h' rfl
  · exact h rfl
theorem if_t {P Q : Prop} (h : P) : If true P Q := by
  unfold If
  exact h
theorem if_f {P Q : Prop} (h : Q) : If false P Q := by
  unfold If
  exact h
theorem if_decide {P A B : Prop} [d : Decidable P] (h : P → A) (h' : ¬ P → B) : If (decide P) A B := if_b (fun q => h (of_decide_eq_true q)) (fun q => h' (of_decide_eq_false q))
theorem if_ndecide {P A B : Prop} [d : Decidable P] (h : ¬ P → A) (h' : P → B) : If (!decide P) A B := if_b (fun q => h (by simpa using q)) (fun q => h' (by simpa using q))
theorem rng1 {b : Int} {P : List V → Prop} (s : Side (-(2 ^ 62) ≤ b ∧ b < 2 ^ 62)) (h : P (rngItems 0 b.toNat)) : Rng [.int b] P := by
  unfold Rng
  exact .inl ⟨b, rfl, s.h, h⟩
theorem rng2 {a b : Int} {P : List V → Prop} (s : Side ((-(2 ^ 62) ≤ a ∧ a < 2 ^ 62) ∧ (-(2 ^ 62) ≤ b ∧ b < 2 ^ 62))) (h : P (rngItems a (b - a).toNat)) : Rng [.int a, .int b] P := by
  unfold Rng
  exact .inr ⟨a, b, rfl, s.h, h⟩
theorem i_range {f : Str} {a : Expr} {args : List Expr} {P : KI} (hc : CxIs c pg sc ns lev true) (g : pg.gl f = some (.type "range")) (k : sc.names.lookup f = some .globalImplicit) (st : (a :: args).all noStar = true) (h : Es c X (a :: args) l hp fun vs l hp => Rng vs fun its => P its (fun _ => True) l hp) :
    I c X (.Call (.Name f q) (a :: args) [] p) l hp P := by
  obtain ⟨rfl⟩ := hc
  unfold I
  unfold Es Rng at h
  exact fun fx F => iter_range F.all (F.qt rfl) (by rw [F.pg]; exact g) (by rw [F.kind]; exact k) (F.name k).1 st (h fx F)
theorem i_val {e : Expr} {P : KI} (h : E c X e l hp fun v l hp => Srv c v l hp P) : I c X e l hp P := by
  unfold I
  unfold E Srv at h
  exact fun fx F => iter_val ((h fx F).mono fun v σ h₁ => h₁ fx F)
theorem srv_ref {i : Nat} {its : List V} {P : KI} (hc : CxIs c pg sc ns lev true) (e : hp[i]? = some (.list its)) (h : P its (fun σ' => σ'.hp[i]? = some (.list its)) l hp) : Srv c (.ref i) l hp P := by
  obtain ⟨rfl⟩ := hc
  unfold Srv
  exact fun fx F => srv_refT F.all (F.qt rfl) e h
/-! comprehensions -/
def compCk (sc csc : Scope) (t : Expr) : Bool := compOkB sc csc && nmsOk csc && tgtOk (fun x => csc.names.lookup x == some .local) t
theorem nms_relab {csc : Scope} (h : nmsOk csc = true) : nmsOk (relab csc) = true := by
  unfold nmsOk relab
  rw [List.all_map]
  refine List.all_eq_true.mpr fun y hy => ?_
  have := List.all_eq_true.mp h y hy
  dsimp only [Function.comp]
  split <;> exact this
@[irreducible] def Comp (c : Cx) (elt t : Expr) (ifs : List Expr) (csc : Scope) (its : List V) (need : St → Prop) (l : Lo) (hp : List O) (K : List O → Prop) : Prop :=
  ∃ J, (∀ fx, FxAt c fx → CompJ fx elt t ifs csc its need ⟨l, hp⟩ J) ∧ ∀ hp', J its.length hp' → K hp'
theorem e_comp {elt t iter : Expr} {ifs : List Expr} {csc : Scope} (hc : CxIs c pg sc ns lev true) (ck : compCk sc csc t = true) (ns' : notSet iter = true) (h : I c X iter l hp fun its need l hp => Comp c elt t ifs csc its need l hp fun hp' => K (.ref hp.length) l hp') : E c X (.ListComp elt [⟨t, iter, ifs, 0⟩] csc p) l hp K := by
  obtain ⟨rfl⟩ := hc
  unfold compCk at ck
  simp only [Bool.and_eq_true] at ck
  unfold E
  unfold I Comp at h
  exact fun fx F => evComp F.all (F.qt rfl) (compOk_of F.sc ck.1.1) (folded_of ns' _) ((h fx F).mono fun its need σ ⟨J, h1, h2⟩ => ⟨J, h1 fx F, h2⟩)
theorem s_comp {x : Str} {elt t iter : Expr} {ifs : List Expr} {csc : Scope} {K : KF} (hc : CxIs c pg sc ns lev true) (kx : varOk sc x = true) (ck : compCk sc csc t = true) (ns' : notSet iter = true) (h : I c X iter l hp fun its need l hp => Comp c elt t ifs csc its need l hp fun hp' => K .next (setN l x (.ref hp.length)) hp') : S c X (.Assign [.Name x q] (.ListComp elt [⟨t, iter, ifs, 0⟩] csc r) p) l hp K := by
  obtain ⟨rfl⟩ := hc
  unfold compCk at ck
  simp only [Bool.and_eq_true] at ck
  unfold S
  unfold I Comp at h
  exact fun fx F hL => evAssignComp F.all (F.qt rfl) (isVar_of F hL kx) (compOk_of F.sc ck.1.1) (folded_of ns' _) ((h fx F).mono fun its need σ ⟨J, h1, h2⟩ => ⟨J, h1 fx F, h2⟩)
/-- a comprehension with no test, by a relation -/
theorem comp_gen (hc : CxIs c pg sc ns lev qt) {elt t : Expr} {csc : Scope} {its : List V} {need : St → Prop} {K : List O → Prop} (ck : compCk sc csc t = true) (R : Nat → V → Prop) (hl : its.length ≤ sizeLine) (hneed : ∀ vs : List V, need ⟨l, hp ++ [.list vs]⟩)
    (turn : ∀ (k : Nat) (hk : k < its.length) (vs : List V), vs.length = k → (∀ (j : Nat) (hj : j < vs.length), R j vs[j]) → ∃ bs, tgtV t its[k] = some bs ∧ ∀ c', CxIs c' pg (relab csc) ns lev qt → E c' X0 elt (setAll (compLoc csc l) bs) (hp ++ [.list vs]) (fun v _ hp' => hp' = hp ++ [.list vs] ∧ R k v))
    (fin : ∀ vs : List V, vs.length = its.length → (∀ (j : Nat) (hj : j < vs.length), R j vs[j]) → K (hp ++ [.list vs])) : Comp c elt t [] csc its need l hp K := by
  obtain ⟨rfl⟩ := hc
  unfold compCk at ck
  simp only [Bool.and_eq_true] at ck
  unfold Comp
  refine ⟨fun k hp' => ∃ vs : List V, vs.length = k ∧ (∀ (j : Nat) (hj : j < vs.length), R j vs[j]) ∧ hp' = hp ++ [.list vs], fun fx F => ⟨⟨[], rfl, fun j hj => by simp at hj, rfl⟩, fun k hp' ⟨vs, _, _, e⟩ => e ▸ hneed vs, hl, ?_⟩, fun hp' ⟨vs, e1, e2, e3⟩ => e3 ▸ fin vs e1 e2⟩
  rintro k hp' hk ⟨vs, hv, hR, rfl⟩
  obtain ⟨bs, e, x⟩ := turn k hk vs hv hR
  have co := compOk_of F.sc ck.1.1
  refine ⟨bs, e, fun b hb => by simpa using tgt_ok ck.2 e b hb, fun fc allc e1 e2 e3 e5 e4 => evTs_nil ?_⟩
  have x := x _ ⟨rfl⟩
  unfold E at x
  refine (x fc ⟨allc, e1.trans F.pg, e4.trans (relabel_eq co F.all.ok.kind), e2.trans F.ns, by rw [e3]; exact F.lev, fun z => e5.trans (F.qt z), nms_relab ck.1.2⟩).mono fun v σ ⟨e1, e2⟩ => ?_
  refine ⟨vs, by rw [e1]; simp, by omega, vs ++ [v], by simp [hv], fun j hj => ?_, by rw [e1]; simp⟩
  rcases Nat.lt_or_ge j vs.length with q | q
  · rw [List.getElem_append_left q]
    exact hR j q
  · have : j = vs.length := by simp at hj; omega
    subst this
    simp
    rw [hv]
    exact e2

theorem s_ret {e : Expr} {K : KF} (h : E c X e l hp fun v l hp => K (.ret v) l hp) : S c X (.Return (some e) p) l hp K := by
  unfold S
  unfold E at h
  exact fun fx F _ => evReturn (h fx F)
theorem s_expr {e : Expr} {K : KF} (nc : notComp e = true) (h : E c X e l hp fun _ l hp => K .next l hp) : S c X (.Expr e p) l hp K := by
  unfold S
  unfold E at h
  exact fun fx F _ => evExpr F.all.ok (h fx F) nc
theorem s_asg {x : Str} {e : Expr} {K : KF} (hc : CxIs c pg sc ns lev qt) (nc : notComp e = true) (kx : varOk sc x = true) (h : E c X e l hp fun v l hp => K .next (setN l x v) hp) : S c X (.Assign [.Name x q] e p) l hp K := by
  obtain ⟨rfl⟩ := hc
  unfold S
  unfold E at h
  exact fun fx F hL => evAssignName F.all (isVar_of F hL kx) (h fx F) nc
theorem s_asgS {o i e : Expr} {K : KF} (nc : notComp e = true) (h : E c X e l hp fun v l hp => E c X o l hp fun ov l hp => E c X i l hp fun iv l hp => Set' c X ov iv v l hp fun l hp => K .next l hp) : S c X (.Assign [.Subscript o i q] e p) l hp K := by
  unfold S
  unfold E Set' at h
  exact fun fx F _ => evAssignSub ((h fx F).mono fun v σ h₁ => (h₁ fx F).mono fun ov σ' h₂ => (h₂ fx F).mono fun iv σ'' h₃ => h₃ fx F) nc
theorem s_if {t : Expr} {b o : List Stmt} {K : KF} (h : B c X t l hp fun d l hp => If d (Ss c X b l hp K) (Ss c X o l hp K)) : S c X (.If t b o p) l hp K := by
  unfold S
  unfold B If Ss at h
  refine fun fx F hL => evIf ((h fx F).mono fun d σ h₁ => ?_)
  cases d with
  | true => exact h₁ fx F hL
  | false => exact h₁ fx F hL
theorem ss_nil {K : KF} (h : K .next l hp) : Ss c X [] l hp K := by unfold Ss; exact fun _ _ _ => evSs_nil h
theorem ss_cons {st : Stmt} {r : List Stmt} {K : KF} (h : S c X st l hp fun fl l hp => match fl with | .next => Ss c X r l hp K | f => K f l hp) : Ss c X (st :: r) l hp K := by
  unfold Ss
  unfold S at h
  refine fun fx F hL => evSs_cons ((h fx F hL).mono fun fl σ h₁ => ?_)
  cases fl with
  | next =>
    dsimp only at h₁
    unfold Ss at h₁
    exact h₁ fx F hL
  | _ => exact h₁
theorem ss_asg {ts : List Expr} {e : Expr} {r : List Stmt} {K : KF} (h : S c X (.Assign ts e p) l hp fun fl l hp => match fl with | .next => Ss c X r l hp K | f => K f l hp) : Ss c X (.Assign ts e p :: r) l hp K := ss_cons h
theorem ss_expr {e : Expr} {r : List Stmt} {K : KF} (h : S c X (.Expr e p) l hp fun fl l hp => match fl with | .next => Ss c X r l hp K | f => K f l hp) : Ss c X (.Expr e p :: r) l hp K := ss_cons h
theorem ss_ret {e : Option Expr} {r : List Stmt} {K : KF} (h : S c X (.Return e p) l hp fun fl l hp => match fl with | .next => Ss c X r l hp K | f => K f l hp) : Ss c X (.Return e p :: r) l hp K := ss_cons h
theorem ss_raise {a b : Option Expr} {r : List Stmt} {K : KF} (h : S c X (.Raise a b p) l hp fun fl l hp => match fl with | .next => Ss c X r l hp K | f => K f l hp) : Ss c X (.Raise a b p :: r) l hp K := ss_cons h
theorem ss_if {t : Expr} {b o r : List Stmt} {K : KF} (h : B c X t l hp fun d l hp => If d (Ss c X b l hp (fun fl l hp => match fl with | .next => Ss c X r l hp K | f => K f l hp)) (Ss c X o l hp (fun fl l hp => match fl with | .next => Ss c X r l hp K | f => K f l hp))) : Ss c X (.If t b o p :: r) l hp K := ss_cons (s_if h)
theorem s_mono {st : Stmt} {K K' : KF} (h : S c X st l hp K) (hk : ∀ fl l hp, K fl l hp → K' fl l hp) : S c X st l hp K' := by
  unfold S at *
  exact fun fx F hL => (h fx F hL).mono fun _ _ x => hk _ _ _ x
theorem ss_cut {st : Stmt} {rest : List Stmt} {K : KF} (P : Lo → List O → Prop) (h1 : S c X st l hp (fun fl l hp => fl = .next ∧ P l hp)) (h2 : ∀ l hp, P l hp → Ss c X rest l hp K) : Ss c X (st :: rest) l hp K :=
  ss_cons (s_mono h1 fun fl l hp ⟨e, x⟩ => by subst e; exact h2 l hp x)
theorem s_for {t iter : Expr} {b : List Stmt} {K : KF} (hc : CxIs c pg sc ns lev true) (tk : tgtOk (varOk sc) t = true) (ns' : notSet iter = true)
    (h : I c X iter l hp fun its need l hp => ∃ J : Nat → Lo → List O → Prop, J 0 l hp ∧ (∀ k l hp, J k l hp → need ⟨l, hp⟩) ∧
      (∀ (k : Nat) (hk : k < its.length) l hp, J k l hp → ∃ bs, tgtV t its[k] = some bs ∧ Ss c X b (setAll l bs) hp fun fl l hp => match fl with | .next | .cont => J (k + 1) l hp | .brk => K .next l hp | .ret v => K (.ret v) l hp) ∧
      ∀ l hp, J its.length l hp → K .next l hp) : S c X (.For t iter b [] p) l hp K := by
  obtain ⟨rfl⟩ := hc
  unfold S
  unfold I at h
  refine fun fx F hL => evFor F.all hL ((h fx F).mono fun its need σ ⟨J, h1, h2, h3, h4⟩ => ⟨fun k σ => J k σ.loc σ.hp, h1, fun k σ x => h2 k σ.loc σ.hp x, fun k σ' hk hJ ps al => ?_, fun σ x => h4 _ _ x⟩) (folded_of ns' _)
  obtain ⟨bs, e, y⟩ := h3 k hk σ'.loc σ'.hp hJ
  have Fp := F.push al
  unfold Ss at y
  refine asgT_of al (F.qt rfl) e (fun b hb => isVar_of Fp hL (tgt_ok tk e b hb)) ((y _ Fp hL).mono fun fl σ₂ z => ?_)
  cases fl <;> exact z
theorem tgt1 {x : Str} {v : V} : tgtV (.Name x p) v = some [(x, v)] := rfl
theorem tgt2 {x y : Str} {a b : V} {k : Nat} : tgtV (.Tuple [.Name x p, .Name y q] k r) (.tup [a, b]) = some [(x, a), (y, b)] := rfl
theorem s_for1 {x : Str} {iter : Expr} {b : List Stmt} {K : KF} (hc : CxIs c pg sc ns lev true) (tk : tgtOk (varOk sc) (.Name x q) = true) (ns' : notSet iter = true)
    (h : I c X iter l hp fun its need l hp => ∃ J : Nat → Lo → List O → Prop, J 0 l hp ∧ (∀ k l hp, J k l hp → need ⟨l, hp⟩) ∧
      (∀ (k : Nat) (hk : k < its.length) l hp, J k l hp → Ss c X b (setN l x its[k]) hp fun fl l hp => match fl with | .next | .cont => J (k + 1) l hp | .brk => K .next l hp | .ret v => K (.ret v) l hp) ∧
      ∀ l hp, J its.length l hp → K .next l hp) : S c X (.For (.Name x q) iter b [] p) l hp K := by
  refine s_for hc tk ns' ?_
  unfold I at *
  exact fun fx F => (h fx F).mono fun its need σ ⟨J, h1, h2, h3, h4⟩ => ⟨J, h1, h2, fun k hk l hp x => ⟨_, tgt1, h3 k hk l hp x⟩, h4⟩
theorem s_while {t : Expr} {b : List Stmt} {K : KF} (J : Nat → Lo → List O → Prop) (m : Nat) (h0 : J m l hp)
    (turn : ∀ m l hp, J m l hp → B c X t l hp fun d l hp => If d (Ss c X b l hp (fun fl l hp => match fl with | .next | .cont => ∃ m', m' < m ∧ J m' l hp | .brk => K .next l hp | .ret v => K (.ret v) l hp)) (K .next l hp)) :
    S c X (.While t b [] p) l hp K := by
  unfold S
  refine fun fx F hL => evWhile F.all hL (fun m σ => J m σ.loc σ.hp) m h0 fun m σ hJ => ?_
  have y := turn m σ.loc σ.hp hJ
  unfold B If Ss at y
  refine (y fx F).mono fun d σ₁ h₁ => ?_
  cases d with
  | true => exact (h₁ fx F hL).mono fun fl σ₂ z => by cases fl <;> exact z
  | false => exact h₁

/-! exceptions -/
theorem s_raise {x : Str} {C : Addr} {e₀ : Expr} {rest : List Expr} {K : KF} (hc : CxIs c pg sc ns lev true) (g : pg.gl x = some (.ref C)) (g1 : nsIn pg.K mainGlobals x = some (some (.ref C))) (g2 : excIn pg.K C veMro "ValueError.__new__" = true) (k : sc.names.lookup x = some .globalImplicit) (st : (e₀ :: rest).all noStar = true)
    (h : Es c X (e₀ :: rest) l hp fun vs l hp => Sz vs (X (.ref C) ⟨l, hp⟩)) : S c X (.Raise (some (.Call (.Name x q) (e₀ :: rest) [] r)) none p) l hp K := by
  obtain ⟨rfl⟩ := hc
  unfold S
  unfold Es Sz at h
  exact fun fx F _ => evRaise F.all (F.qt rfl) (by rw [F.pg]; exact g) (by rw [F.pg]; exact g1) (by rw [F.pg]; exact g2) (by rw [F.kind]; exact k) (F.name k).1 st (h fx F)
theorem s_try {b : List Stmt} {h₀ : ExceptHandler} {hs : List ExceptHandler} {K : KF} (h : Ss c (fun cls σ => Hd c X (h₀ :: hs) cls σ.loc σ.hp K) b l hp K) : S c X (.Try b (h₀ :: hs) [] [] p) l hp K := by
  unfold S
  unfold Ss at h
  exact fun fx F hL => evTry F.all hL (h fx F hL) fun cls σ' hX => by unfold Hd at hX; exact hX fx F hL
theorem hd_no {y : Str} {nm : Option Str} {b : List Stmt} {r : List ExceptHandler} {cls cv : Value} {K : KF} (hc : CxIs c pg sc ns lev qt) (g : pg.gl y = some cv) (e : exmOne pg.K cls cv = some false) (k : sc.names.lookup y = some .globalImplicit) (h : Hd c X r cls l hp K) :
    Hd c X (.ExceptHandler (some (.Name y q)) nm b p :: r) cls l hp K := by
  obtain ⟨rfl⟩ := hc
  unfold Hd at *
  exact fun fx F hL => evH_no F.all (by rw [F.pg]; exact g) (by rw [F.kind]; exact k) (F.name k).1 (by rw [F.pg]; exact e) (h fx F hL)
theorem fxH_at {fx : Fx} (F : FxAt c fx) (e : Addr) : FxAt { c with qt := false } (fxH fx e) := ⟨fxH_all F.all e, F.pg, F.sc, F.ns, F.lev, fun z => (by cases z), F.nk⟩
theorem hd_hit1 {y z : Str} {b₀ : Stmt} {suite : List Stmt} {r : List ExceptHandler} {C : Addr} {cv : Value} {K : KF} (hc : CxIs c pg sc ns lev qt) (g : pg.gl y = some cv) (e : exmOne pg.K (.ref C) cv = some true) (k : sc.names.lookup y = some .globalImplicit) (kz : sc.names.lookup z = some .local)
    (h : ∀ c', CxIs c' pg sc ns lev false → Ss c' X0 (b₀ :: suite) (setN l z (.ref hp.length)) (hp ++ [.exn C]) (fun fl l hp => K fl (fun y => if y = z then none else l y) hp)) :
    Hd c X (.ExceptHandler (some (.Name y q)) (some z) (b₀ :: suite) p :: r) (.ref C) l hp K := by
  obtain ⟨rfl⟩ := hc
  have h := h _ ⟨rfl⟩
  unfold Ss at h
  unfold Hd
  exact fun fx F hL => evH_hit1 F.all (by rw [F.pg]; exact g) (by rw [F.kind]; exact k) (F.name k).1 (by rw [F.pg]; exact e) hL (by rw [F.kind]; exact kz) fun a => h _ (fxH_at F a) hL
end
end Mine

set_option autoImplicit false
namespace Mine
open PySem PySem.W PySem.Calls PySem.Spec PyProof.Rows

/-! a loop over a zip of two lists -/
section
variable {fx : Fx} {X : XP} {σ : St} {W : Wd} {s : Shared}
end
section
variable {c : Cx} {X : XP} {l : Lo} {hp : List O} {p q r : Pos} {pg : Pg} {sc : Scope} {ns : List Int} {lev : Nat}
end
end Mine

set_option autoImplicit false
namespace Mine
open PySem PySem.W PySem.Calls PySem.Spec PyProof.Rows

theorem law_run {pg : Pg} {s₁ : Shared} {law : Str} {f fa a : Addr} {x : Str} {body : List Stmt} {scope : Scope} {vals : List Value} {ns : List Int} {R : Result → Shared → Prop}
    (T : Top pg.p pg.loose pg.mean pg.mg pg.mb s₁.heap) (KX : pg.K.In s₁.heap) (hgl : nsIn pg.K mainGlobals law = some (some (.ref f))) (hmg : pg.mg law = some (.ref fa)) (D : FnAt pg f [x] body scope) (nk : nmsOk scope = true)
    (hL : s₁.heap.IsList a vals.toArray) (hI : IntsAre vals ns) (hn : ns.length ≤ 63)
    (h : ∀ fx, FxAt ⟨pg, scope, ns, 600, true⟩ fx → fx.env.locals = fx.L → EvSs fx X0 body ⟨bindV [x] [.scr] (fun _ => none), []⟩ (fun fl _ => fl = .ret (.bool true)))
    (hR : ∀ s' m', Fr s₁.heap s₁.heap.objs.size s'.heap m' → s'.gens = s₁.gens → s'.os = s₁.os → R (.ok (.ret (.bool true))) s') :
    codeAny (model pg.prog pg.w) callerA (.call (.ref fa) ⟨[.ref a], []⟩) R s₁ := by
  have e := mg_of KX T.g hgl
  rw [hmg] at e
  cases e
  obtain ⟨name, qual, params, dV, kV, doc, pm, an, cdv, ct, oc, od, osl, ho, hcd, hbind⟩ := D.data
  have hb := hbind [.ref a] rfl
  refine codeAny_call_function (by decide) (KX _ _ ho) rfl D.hco D.hgen rfl (codeRec_of KX hcd) ((BindsTo.of_eq hb) _ _ _ _ ?_)
  refine wpAny_newFunctionEnv_cells D.hk (fun y hy => ?_) fun env' he s' x' => ?_
  · have hx' : y.1 ∈ [x] := (List.of_mem_zip (a := y.1) (b := y.2) hy).1
    rcases D.kinds y.1 hx' with q | q
    · exact .inl q
    · exact .inr ⟨q, cf_some _ _ _ (.inl q)⟩
  subst he
  refine ⟨T.nolimit.keeps x'.toInCall.keep, codeAny_func ?_⟩
  obtain ⟨h₁, tk, rfl, _⟩ := x'.done
  have hk₁ := x'.toInCall.keep
  obtain ⟨cells, N, Y⟩ := Cl.news (h₀ := s₁.heap) (Nat.le_refl _) fun n c hm => ⟨x'.cell n c (lookup_of_mem_nodup (cellsFrom_names scope.names 0 (s₁.heap.objs.size + 1) [] [] rfl ▸ D.cells) hm), x'.above n c hm⟩
  let L' := s₁.heap.objs.size
  have keysC := cellsAre_keys Y
  have cfa := cf_addr scope.names (L' + 1) (L' + 1) [] (Nat.le_refl _) (by simp) (fun p hp => by cases hp)
  have cellAt : ∀ y c, (cellsFrom (L' + 1) scope.names []).lookup y = some c → ∃ o, (c, o) ∈ cells ∧ o.data = .cell (bindC (envOfC qual scope L' f cdv).kindOf ([x].zip [.ref a]) (fun _ => none) y) := fun y c h => cellsAre_at Y (lookup_mem h)
  have F' : Fr s₁.heap L' h₁ (bindL (envOfC qual scope L' f cdv).kindOf ([x].zip [.ref a]) fun _ => none) := ⟨x'.toInCall.ns, hk₁, Nat.le_refl _⟩
  let fx : Fx := { pg := pg, A := callerA.deeper (envOfC qual scope L' f cdv), env := envOfC qual scope L' f cdv, fenv := envOfC qual scope L' f cdv, outer := [], A₀ := callerA, base := s₁.heap, h₀ := s₁.heap, L := L',
                   ex := [], s₀ := s₁, sc := a, ns := ns, lev := 600, mfix := none, qt := true }
  have all : FxAll fx := {
    ok := ⟨D.hk, fun _ => rfl⟩
    locs := .inl rfl
    cex := fun _ x c h p hp => by cases hp
    cinj := fun x y c h h' => snd_inj cfa.1 (lookup_mem h) (lookup_mem h')
    cdef := fun x h q => by
      have := cf_some (x := x) scope.names (L' + 1) [] (.inl h)
      rw [show (cellsFrom (L' + 1) scope.names []).lookup x = none from q] at this
      cases this
    scr := by
      obtain ⟨o, h1, h2, n, h3⟩ := hL
      exact ⟨vals, n, o, h1, h2, h3, hI, Nat.lt_of_le_of_lt hn (by decide)⟩
    egl := rfl
    ebu := rfl
    top := T
    part := KX
    below := below_caller _
    dicts := ktsDicts_nil
    frs := rfl
    ffr := rfl
    fkd := D.hk
    depth := by show 1 + claimMargin + 1 + 600 < recursionLimit; decide
    room := by show 4 + 3 + 8 * 600 + 100 < cLine; decide
    mfn := fun _ => rfl
    envf := fun _ => rfl }
  have R' : Rep fx ⟨bindV [x] [.scr] (fun _ => none), []⟩ ⟨[], [], a⟩ { s₁ with heap := h₁, toks := tk } := by
    refine ⟨rfl, _, _, cells, .refl, F', N, ⟨?_, ?_, ?_, List.nodup_nil, rfl, ?_, ?_, fun y v h => ?_, fun y c h => ?_, rfl, ?_, ?_⟩⟩
    · rw [keysC]; exact cfa.1
    · intro p hp; cases hp
    · intro p hp; cases hp
    · intro i o h; simp at h
    · intro t ht; cases ht
    · obtain ⟨u, h1, h2⟩ := bind_rel (W := ⟨[], [], a⟩) (xs := [x]) (vs := [.scr]) (us := [.ref a]) (kindOf := (envOfC qual scope L' f cdv).kindOf) (.cons .scr .nil) D.kinds (fun _ => none) (fun _ => none) (fun _ => none) (fun y v h => by cases h) y v h
      refine ⟨u, h1, ?_⟩
      rcases h2 with ⟨k1, k2⟩ | ⟨k1, k2⟩
      · exact .loc k1 rfl k2
      · have hs := cf_some (x := y) scope.names (L' + 1) [] (.inl k1)
        obtain ⟨c, hc⟩ := Option.isSome_iff_exists.mp hs
        obtain ⟨o, ho, hd⟩ := cellAt y c hc
        exact .cell (.inl k1) hc ho (by rw [hd, k2])
    · obtain ⟨o, ho, hd⟩ := cellAt y c h
      exact ⟨List.not_mem_nil, o, _, ho, hd⟩
    · intro _ q; cases q
    · intro p hp; cases hp
  refine wpAny_mono (h fx ⟨all, rfl, rfl, rfl, Nat.le_refl _, fun _ => rfl, nk⟩ rfl _ _ R') ?_ fun _ _ x => x.never.elim
  rintro fl s' ⟨W', σ', fl', le', ⟨er, g', m', news', G'', F₁, _, _⟩, r'', rfl⟩
  have F'' : Fr s₁.heap s₁.heap.objs.size s'.heap m' := ⟨F₁.ns, fun b o e => F₁.keep b o (G''.other b o e (by simp [fx])), Nat.le_refl _⟩
  cases r'' with
  | ret r =>
    cases r
    exact hR s' m' F'' (by rw [er]) (by rw [er])

end Mine

set_option autoImplicit false
namespace Mine
open PySem PySem.W PySem.Calls PySem.Spec PyProof.Rows
open PySem.Builtin PySem.Builtin.ObjectAttr PySem.Builtin.Getset_descriptor

/-! isinstance of an exception of an own class -/
def XcAt (x D : Addr) (h : Heap) : Prop := ∃ ob, h.get? x = some ob ∧ ob.cls = .ref D
section
variable {prog : Program} {w : World} {A : Around} {E : Value → Shared → Prop} {s : Shared} {K : Frag} {x D : Addr}
theorem xc_type {M : Model} {h : Heap} (I : XcAt x D h) : Looks M h (typeOf (.ref x)) (.ref D) := by
  obtain ⟨ob, h1, h2⟩ := I
  exact h2 ▸ (Looks.ld h1).andThen .now

theorem xc_get {R : Result → Shared → Prop} {tp : Value} (X : K.In s.heap) (I : XcAt x D s.heap) (hm : mroIn K D (.type "object") = some true)
    (h : R (.ok (.ret (.ref D))) s) : codeAny (model prog w) A (.call (.builtin "getset_descriptor.__get__") ⟨[.builtin "object.__class__", .ref x, tp], []⟩) R s := by
  obtain ⟨hh, g, dr, t, os⟩ := s
  have L0 := xc_type (M := model prog w) I
  have L1 := looks_mroIn (M := model prog w) X hm
  refine codeAny_call_builtin KF.slot_gs.plain KF.entry_gs (KF.slot_gs.check _ _ _ _ _ _ _ _ KF.type_class (KF.args_gs _ _ _) ?_)
  unfold Builtin.«getset_descriptor.__get__» descrGet
  rw [dga_obj]
  refine wpAny_bind (wpAny_pure ?_)
  unfold descrGetter descrCheckInstance descrNameAndClass isInstance
  simp only [KF.owner_class]
  repeat lk
  refine ⟨Code.quiet_builtin _ (by decide +kernel), codeAny_builtin KF.entry_class ?_⟩
  unfold Builtin.«object.__class__» shownTypeOf
  repeat lk
  exact h

theorem xc_class {Q : Option Value → Shared → Prop} (hga : findIn K (.ref D) "__getattribute__" = some (some (.builtin "BaseException.__getattribute__"))) (hgh : findIn K (.ref D) "__getattr__" = some none)
    (ha : findIn K (.ref D) "__class__" = some (some (.builtin "object.__class__")))
    (hn : specialIn K (.builtin "object.__class__") "__get__" = some (some (.builtin "getset_descriptor.__get__"))) (htk : takesIn K (.builtin "object.__class__") = some true) (hm : mroIn K D (.type "object") = some true) (hb : mroIn K D (.type "BaseException") = some true)
    (X : K.In s.heap) (I : XcAt x D s.heap) (h : Q (some (.ref D)) { s with toks := s.toks + 1 }) : wpAny (model prog w) A (getAttr? (.ref x) "__class__") Q E s := by
  obtain ⟨hh, g, d, t, os⟩ := s
  have L0 := xc_type (M := model prog w) I
  have L1 := looks_findIn (M := model prog w) X hga
  have L2 := looks_findIn (M := model prog w) X hgh
  have LB := looks_mroIn (M := model prog w) X hb
  have LF : Looks (model prog w) hh (find (.ref x) (.ref D) "__class__") (.bind (.builtin "getset_descriptor.__get__") (.builtin "object.__class__")) := by
    refine (looks_findIn (M := model prog w) X ha).andThen ((show Looks _ _ (getOf (some (.builtin "object.__class__"))) _ from looks_specialIn X hn).andThen ?_)
    exact (show Looks _ _ (dataDescriptor? (some (.builtin "object.__class__")) (some (.builtin "getset_descriptor.__get__"))) (some (.builtin "getset_descriptor.__get__", .builtin "object.__class__")) from (looks_takesIn X htk).andThen .now).andThen (Looks.tag .now)
  unfold getAttr? getAttrBy? getAttrBy
  refine wpAny_bind (wpAny_mkText (wpAny_bind (wpAny_attempt (wpAny_holding (wpAny_bind (L0.at (wpAny_bind (L1.at ?_))))))))
  show wpAny _ _ (getAttrByItsOwn _ _ _ _ _ _) _ _ _
  unfold getAttrByItsOwn
  refine wpAny_bind (L2.at ?_)
  refine wpAny_bind (wpAny_attempt (wpAny_holding ?_))
  show wpAny _ _ (boundAndCalled _ _ _) _ _ _
  unfold boundAndCalled
  rw [F.excAttr_ValueError.ga.bind]
  refine wpAny_bind (wpAny_pure ?_)
  refine wpAny_call (codeAny_call_builtin F.excAttr_ValueError.ga.plain F.entry_bexc_ga ?_)
  have hk : builtinKind "BaseException.__getattribute__" = some .slot := by decide +kernel
  have hsplit : splitId "BaseException.__getattribute__" = some ("BaseException", "__getattribute__") := by decide +kernel
  have hargs := F.args_bexc_ga (.ref x) (.str "__class__" t)
  simp only [checkBuiltinCall, hk, hsplit]
  have LI : Looks (model prog w) hh (isInstance (.ref x) (.type "BaseException")) true := L0.andThen LB
  refine wpAny_bind (LI.at ?_)
  unfold Builtin.«object.__getattribute__»
  repeat (first | exact hargs | lk)
  refine wpAny_run (codeAny_mono (xc_get (s := ⟨hh, g, d, t + 1, os⟩) (R := fun r s' => r = .ok (.ret (.ref D)) ∧ s' = ⟨hh, g, d, t + 1, os⟩) X I hm ⟨rfl, rfl⟩) ?_)
  rintro _ _ ⟨rfl, rfl⟩
  exact wpAny_pure (wpAny_pure (wpAny_pure (wpAny_pure h)))
end

structure XcFacts (K : Frag) (D : Addr) : Prop where
  ga : findIn K (.ref D) "__getattribute__" = some (some (.builtin "BaseException.__getattribute__"))
  gh : findIn K (.ref D) "__getattr__" = some none
  ca : findIn K (.ref D) "__class__" = some (some (.builtin "object.__class__"))
  gs : specialIn K (.builtin "object.__class__") "__get__" = some (some (.builtin "getset_descriptor.__get__"))
  tk : takesIn K (.builtin "object.__class__") = some true
  ob : mroIn K D (.type "object") = some true
  be : mroIn K D (.type "BaseException") = some true
theorem kitx_exc {K : Frag} {x D : Addr} (f : XcFacts K D) : KitX K (.ref x) (.ref D) (XcAt x D) := by
  obtain ⟨cd, hcd, _⟩ := Option.bind_eq_some_iff.mp f.ob
  refine ⟨fun _ _ _ I => xc_type I, fun _ _ X _ => ?_, fun h tp dd its n sl X htp => ?_, fun X I k => xc_class f.ga f.gh f.ca f.gs f.tk f.ob f.be X I k⟩
  · unfold clsIn at hcd
    split at hcd
    · rename_i ho
      intro A' Q' E' s' k q
      unfold isType loadHead
      exact wpAny_bind (wpAny_loadPart (k _ _ (X _ _ ho)) (wpAny_pure q))
    · cases hcd
  · refine Bool.eq_false_iff.mpr fun q => ?_
    have e : D = tp := Value.ref.inj (beq_iff_eq.mp q)
    subst e
    unfold clsIn at hcd
    split at hcd
    · rename_i ho
      have z := (X _ _ ho).symm.trans htp
      cases z
    · cases hcd
theorem Rep.exn_at {fx : Fx} {σ : St} {W : Wd} {s : Shared} (R : Rep fx σ W s) {i : Nat} {D : Addr} {u : Value} (ho : σ.hp[i]? = some (.exn D)) (r : VR W (.ref i) u) : ∃ a, u = .ref a ∧ XcAt a D s.heap := by
  refine R.elim fun _ g m news G F N C => ?_
  obtain ⟨a, ob, h1, h2, h3⟩ := C.obs i _ ho
  cases r with
  | ref e =>
    rw [h1] at e
    cases e
    cases h3 with
    | exn q _ => exact ⟨a, rfl, _, (N _ h2).1, q⟩
theorem isi_exn {c : Cx} {X : XP} {l : Lo} {hp : List O} {K : KV} {pg : Pg} {sc : Scope} {ns : List Int} {lev : Nat} {qt : Bool} {i : Nat} {D : Addr} {v : Value} {b : Bool} (hc : CxIs c pg sc ns lev qt) (e : hp[i]? = some (.exn D)) (f : XcFacts pg.K D) (k : kitOne pg.K (.ref D) v = some b)
    (h : K (.bool b) l hp) : CB c X "isinstance" [.ref i, .glob v] l hp K := by
  obtain ⟨rfl⟩ := hc
  unfold CB
  intro fx F W s us R r
  have X' := F.all.part.keeps (F.all.stays R)
  rw [F.pg] at X'
  cases r with
  | cons r₁ r =>
    cases r with
    | cons r₂ r =>
      cases r; cases r₂
      obtain ⟨a, rfl, I⟩ := R.exn_at e r₁
      exact kia_one (kitx_exc f) X' I k (by intro q; cases q) fun tk => .here (R.toks tk) (.bool _) h
end Mine

set_option autoImplicit false
namespace Mine
open PySem PySem.W PySem.Calls PySem.Spec PyProof.Rows

/-! a list times a number; the least of a list -/
section
variable {fx : Fx} {X : XP} {σ : St} {W : Wd} {s : Shared}
end
section
variable {c : Cx} {X : XP} {l : Lo} {hp : List O} {K : KV}
end
end Mine

set_option autoImplicit false
namespace Mine
open PySem PySem.W PySem.Calls PySem.Spec PyProof.Rows

theorem fn1 {α : Type} {P : List α → Prop} (h : ∀ a, P [a]) : ∀ us : List α, us.length = 1 → P us
  | [a], _ => h a
theorem fn2 {α : Type} {P : List α → Prop} (h : ∀ a b, P [a, b]) : ∀ us : List α, us.length = 2 → P us
  | [a, b], _ => h a b
theorem fn3 {α : Type} {P : List α → Prop} (h : ∀ a b c, P [a, b, c]) : ∀ us : List α, us.length = 3 → P us
  | [a, b, c], _ => h a b c
theorem fnAt_of {pg : Pg} {f : Addr} {xs : List Str} {name qual : Str} {params : Arguments} {body : List Stmt} {scope : Scope} {dV kV doc pm an cdv ct oc od osl} (h1 : pg.K.lookup f = some ⟨oc, od, .func (fnOf name qual params body scope dV kV doc pm an cdv ct), osl⟩) (h2 : codeIn pg.K cdv qual = true)
    (h3 : ∀ us : List Value, us.length = xs.length → bindArgs (fnOf name qual params body scope dV kV doc pm an cdv ct) ⟨us, []⟩ = pure (xs.zip us)) (h4 : ∀ x ∈ xs, scope.names.lookup x = some .local ∨ scope.names.lookup x = some .cell)
    (h5 : ((cellsFrom 0 scope.names []).map (·.1)).Nodup) (h6 : scope.isCoroutine = false) (h7 : scope.isGenerator = false) (h8 : scope.kind = .function) : FnAt pg f xs body scope :=
  ⟨⟨name, qual, params, dV, kV, doc, pm, an, cdv, ct, oc, od, osl, h1, h2, h3⟩, h4, h5, h6, h7, h8⟩
/-- a def, by its rules -/
theorem fn_run {pg : Pg} {f : Addr} {xs : List Str} {body : List Stmt} {scope : Scope} (D : FnAt pg f xs body scope) {lev : Nat} {qt : Bool} {ns : List Int} {vs : List V} {hp : List O} {X : Value → List O → Prop} {Q : V → List O → Prop} (hl : vs.length = xs.length) (hok : nmsOk scope = true)
    (h : ∀ c, CxIs c pg scope ns lev qt → Ss c (fun d σ => X d σ.hp) body (bindV xs vs fun _ => none) hp (fun fl _ hp' => Q (retV fl) hp')) : CallOK pg (lev + 1) qt ns f vs hp X Q := by
  have h := h _ ⟨rfl⟩
  unfold Ss at h
  exact callOK_of D hl fun fx F hpg hns hlev hqt hsc hL => h fx ⟨F, hpg, hsc, hns, Nat.le_of_eq hlev.symm, hqt, hok⟩ hL


/-- the law, by its rules -/
theorem law_go {pg : Pg} {s₁ : Shared} {law : Str} {f fa a : Addr} {x : Str} {body : List Stmt} {scope : Scope} {vals : List Value} {ns : List Int} {R : Result → Shared → Prop}
    (T : Top pg.p pg.loose pg.mean pg.mg pg.mb s₁.heap) (KX : pg.K.In s₁.heap) (hmg : pg.mg law = some (.ref fa)) (hL : s₁.heap.IsList a vals.toArray) (hI : IntsAre vals ns) (hn : ns.length ≤ 63) (hgl : nsIn pg.K mainGlobals law = some (some (.ref f))) (D : FnAt pg f [x] body scope) (hok : nmsOk scope = true)
    (hR : ∀ s' m', Fr s₁.heap s₁.heap.objs.size s'.heap m' → s'.gens = s₁.gens → s'.os = s₁.os → R (.ok (.ret (.bool true))) s')
    (h : ∀ c, CxIs c pg scope ns 600 true → Ss c X0 body (bindV [x] [.scr] fun _ => none) [] (fun fl _ _ => fl = .ret (.bool true))) :
    codeAny (model pg.prog pg.w) callerA (.call (.ref fa) ⟨[.ref a], []⟩) R s₁ := by
  have h := h _ ⟨rfl⟩
  unfold Ss at h
  exact law_run T KX hgl hmg D hok hL hI hn (fun fx F hL => h fx F hL) hR


theorem lay_ints : ∀ ns : List Int, PyData.canLayAll0 (ns.map .int) = true ∧ PyData.depthAll (ns.map .int) ≤ 1
  | [] => ⟨by simp [PyData.canLayAll0], by simp [PyData.depthAll]⟩
  | n :: r => by
    have := lay_ints r
    simp [PyData.canLayAll0, PyData.depthAll, PyData.canLay0, PyData.depth, this.1] at *
    omega
theorem shaped_ints (ns : List Int) : PySem.SeqAt.shaped (.list (ns.map .int)) = true := by
  have := lay_ints ns
  simp [PySem.SeqAt.shaped, PyData.canLay0, PyData.depth, this.1]
  omega
section
variable {c : Cx} {X : XP} {l : Lo} {hp : List O} {K : KV}
theorem cmp_ints_eq {i j : Nat} {xs ys : List Int} (h1 : hp[i]? = some (.list (xs.map .int))) (h2 : hp[j]? = some (.list (ys.map .int))) (h : K (.bool (decide (xs = ys))) l hp) : Cmp c X .Eq (.ref i) (.ref j) l hp K :=
  cmp_deq (.list h1 (dats_ints hp xs)) (.list h2 (dats_ints hp ys)) (shaped_ints xs) (shaped_ints ys) (by rw [show PyData.eqv (.list (xs.map .int)) (.list (ys.map .int)) = decide (xs = ys) by rw [PyData.eqv]; exact ked_eqvAll xs ys]; exact h)
theorem cmp_ints_ne {i j : Nat} {xs ys : List Int} (h1 : hp[i]? = some (.list (xs.map .int))) (h2 : hp[j]? = some (.list (ys.map .int))) (h : K (.bool (!decide (xs = ys))) l hp) : Cmp c X .NotEq (.ref i) (.ref j) l hp K :=
  cmp_dne (.list h1 (dats_ints hp xs)) (.list h2 (dats_ints hp ys)) (shaped_ints xs) (shaped_ints ys) (by rw [show PyData.eqv (.list (xs.map .int)) (.list (ys.map .int)) = decide (xs = ys) by rw [PyData.eqv]; exact ked_eqvAll xs ys]; exact h)
end
end Mine

set_option autoImplicit false
namespace Mine
open PySem PySem.W PySem.Calls PySem.Spec PyProof.Rows

/-- the number at a place -/
def g (xs : List Int) (i : Int) : Int := xs.getD i.toNat 0
theorem g_get {xs : List Int} {k : Int} (h0 : 0 ≤ k) (h1 : k < xs.length) : (xs.map V.int)[k.toNat]? = some (.int (g xs k)) := by
  unfold g
  have : k.toNat < xs.length := by omega
  simp [this]
theorem g_nat {xs : List Int} {k : Nat} (h : k < xs.length) : xs[k] = g xs k := by
  unfold g
  simp [h]

/-- a value of the plain kinds -/
def Plain (hp : List O) : V → Prop
  | .int _ | .bool _ | .str _ | .none | .tup _ => True
  | .ref j => ∃ ys, hp[j]? = some (.list ys)
  | _ => False

section
variable {c : Cx} {X : XP} {l : Lo} {hp : List O} {K : KV} {p q : Pos} {pg : Pg} {sc : Scope} {ns : List Int} {lev : Nat} {qt : Bool}

theorem sb_int {i : Nat} {xs : List Int} {k : Int} (e : hp[i]? = some (.list (xs.map .int))) (s : Side (0 ≤ k ∧ k < xs.length ∧ xs.length < 2 ^ 62)) (h : K (.int (g xs k)) l hp) : Sub c X (.ref i) (.int k) l hp K :=
  sb_ref e ⟨by have := s.h; omega⟩ (g_get s.h.1 s.h.2.1) h
theorem sb_all {i : Nat} {vs : List V} {k : Int} (e : hp[i]? = some (.list vs)) (s : Side (0 ≤ k ∧ k < vs.length ∧ vs.length < 2 ^ 62)) (h : ∀ v ∈ vs, K v l hp) : Sub c X (.ref i) (.int k) l hp K := by
  have hk : k.toNat < vs.length := by have := s.h; omega
  exact sb_ref e ⟨by have := s.h; omega⟩ (List.getElem?_eq_getElem hk) (h _ (List.getElem_mem hk))
theorem cb_len_int {i : Nat} {xs : List Int} (e : hp[i]? = some (.list (xs.map .int))) (s : Side (xs.length < 2 ^ 62)) (h : K (.int xs.length) l hp) : CB c X "len" [.ref i] l hp K :=
  cb_len_ref e ⟨by have := s.h; rw [List.length_map]; omega⟩ (by rw [List.length_map]; exact h)
theorem ints_of {R : Nat → Int → Prop} : ∀ {vs : List V}, (∀ (j : Nat) (hj : j < vs.length), ∃ x, vs[j] = .int x ∧ R j x) → ∃ ys : List Int, vs = ys.map .int ∧ ∀ (j : Nat) (hj : j < ys.length), R j ys[j] := by
  intro vs
  induction vs generalizing R with
  | nil => intro _; exact ⟨[], rfl, fun j hj => by simp at hj⟩
  | cons v vs ih =>
    intro h
    obtain ⟨x, e, r⟩ := h 0 (by simp)
    obtain ⟨ys, e', r'⟩ := ih (R := fun j => R (j + 1)) fun j hj => h (j + 1) (Nat.succ_lt_succ hj)
    simp at e
    subst e; subst e'
    refine ⟨x :: ys, rfl, fun j hj => ?_⟩
    cases j with
    | zero => exact r
    | succ j => exact r' j (Nat.lt_of_succ_lt_succ hj)
/-- the same, of numbers -/
theorem comp_ints (hc : CxIs c pg sc ns lev qt) {elt t : Expr} {csc : Scope} {its : List V} {need : St → Prop} {K : List O → Prop} (ck : compCk sc csc t = true) (R : Nat → Int → Prop) (hl : its.length ≤ sizeLine) (hneed : ∀ vs : List V, need ⟨l, hp ++ [.list vs]⟩)
    (turn : ∀ (k : Nat) (hk : k < its.length) (vs : List V), vs.length = k → ∃ bs, tgtV t its[k] = some bs ∧ ∀ c', CxIs c' pg (relab csc) ns lev qt → E c' X0 elt (setAll (compLoc csc l) bs) (hp ++ [.list vs]) (fun v _ hp' => hp' = hp ++ [.list vs] ∧ ∃ x, v = .int x ∧ R k x))
    (fin : ∀ ys : List Int, ys.length = its.length → (∀ (j : Nat) (hj : j < ys.length), R j ys[j]) → K (hp ++ [.list (ys.map .int)])) : Comp c elt t [] csc its need l hp K :=
  comp_gen hc ck (fun k v => ∃ x, v = .int x ∧ R k x) hl hneed (fun k hk vs hv _ => turn k hk vs hv) fun vs hv hR => by
    obtain ⟨ys, rfl, r⟩ := ints_of hR
    exact fin ys (by simpa using hv) r
theorem setN_same {l : Lo} {x : Str} {v : V} : setN l x v x = some v := by unfold setN; rw [if_pos rfl]
theorem setN_ne {l : Lo} {a b : String} {w : V} (h : (a == b) = false) : setN l (Str.ofString b) w (Str.ofString a) = l (Str.ofString a) := by
  unfold setN
  rw [if_neg (fun q => by rw [ofString_inj] at q; subst q; simp at h)]
theorem bind_c {xs : List Str} {vs : List V} {x : Str} {v : V} {l : Lo} {y : Str} : bindV (x :: xs) (v :: vs) l y = bindV xs vs (setN l x v) y := rfl
theorem bind_n {l : Lo} {y : Str} : bindV [] [] l y = l y := rfl
theorem all_c {r : List (Str × V)} {x : Str} {v : V} {l : Lo} {y : Str} : setAll l ((x, v) :: r) y = setAll (setN l x v) r y := rfl
theorem all_n {l : Lo} {y : Str} : setAll l [] y = l y := rfl
theorem compLoc_eq {csc : Scope} {l : Lo} {x : Str} (h : csc.names.lookup x = some .free) : compLoc csc l x = l x := by
  unfold compLoc
  rw [if_pos h]
theorem app_get {hp t : List O} {i : Nat} {o : O} (h : hp[i]? = some o) : (hp ++ t)[i]? = some o := prefix_get (List.prefix_append _ _) h
theorem app_new {hp : List O} {o : O} : (hp ++ [o])[hp.length]? = some o := by simp
theorem get_lt {hp : List O} {i : Nat} {o : O} (h : hp[i]? = some o) : i < hp.length := by
  rcases Nat.lt_or_ge i hp.length with q | q
  · exact q
  · rw [List.getElem?_eq_none q] at h; cases h
end
end Mine

set_option autoImplicit false
namespace Mine
/-- b lies below the line from a to c -/
abbrev Bl (f : Int → Int) (a b c : Int) : Prop := (f b - f a) * (c - a) < (f c - f a) * (b - a)

/-! the ridge -/
/-! what hides a hill -/
theorem nbl_trans {f : Int → Int} {a k b p : Int} (h0 : a < k) (h1 : a < b) (h2 : a < p) (x : ¬ Bl f a b k) (y : Bl f a b p) : Bl f a k p := by
  unfold Bl at *
  refine Int.lt_of_mul_lt_mul_right (a := b - a) ?_ (by omega)
  have x' : (f k - f a) * (b - a) ≤ (f b - f a) * (k - a) := by omega
  have e1 := Int.mul_le_mul_of_nonneg_right x' (show 0 ≤ p - a by omega)
  have e2 := Int.mul_lt_mul_of_pos_right y (show 0 < k - a by omega)
  grind
theorem nbl_nbl {f : Int → Int} {a k b p : Int} (h0 : a < k) (h1 : a < b) (h2 : a < p) (x : ¬ Bl f a b k) (y : Bl f a b p) : ¬ Bl f a p k := by
  have z := nbl_trans h0 h1 h2 x y
  unfold Bl at *
  intro q
  grind
/-! what is seen later, earlier -/
def Sees (f : Int → Int) (a b : Int) : Prop := ∀ k, a < k → k < b → Bl f a k b
/-- what is seen from a among the next k places, and the last of it -/
def lat (f : Int → Int) (a : Int) : Nat → List Int
  | 0 => []
  | k + 1 => match (lat f a k).getLast? with
    | none => lat f a k ++ [a + 1 + k]
    | some q => if Bl f a q (a + 1 + k) then lat f a k ++ [a + 1 + k] else lat f a k
theorem lat_ok (f : Int → Int) (a : Int) : ∀ k : Nat, ((lat f a k = [] ∧ k = 0) ∨ ∃ q, (lat f a k).getLast? = some q ∧ a < q ∧ q < a + 1 + k ∧ ∀ j, a < j → j < a + 1 + k → ¬ Bl f a q j)
  | 0 => .inl ⟨rfl, rfl⟩
  | k + 1 => by
    refine .inr ?_
    unfold lat
    rcases lat_ok f a k with ⟨e, rfl⟩ | ⟨q, e, h1, h2, h3⟩
    · rw [e]
      refine ⟨a + 1 + (0 : Nat), by simp, by omega, by omega, fun j j1 j2 => ?_⟩
      have : j = a + 1 + (0 : Nat) := by omega
      subst this
      unfold Bl
      omega
    · rw [e]
      dsimp only
      by_cases z : Bl f a q (a + 1 + k)
      · rw [if_pos z]
        refine ⟨a + 1 + k, by simp, by omega, by omega, fun j j1 j2 => ?_⟩
        rcases Int.lt_or_le j (a + 1 + k) with y | y
        · exact nbl_nbl j1 h1 (by omega) (h3 j j1 y) z
        · have : j = a + 1 + k := by omega
          subst this
          unfold Bl
          omega
      · rw [if_neg z]
        refine ⟨q, e, h1, by omega, fun j j1 j2 => ?_⟩
        rcases Int.lt_or_le j (a + 1 + k) with y | y
        · exact h3 j j1 y
        · have : j = a + 1 + k := by omega
          subst this
          exact z
open Classical in
/-- the places that are seen, by the law -/
noncomputable def duel (f : Int → Int) (a : Int) (k : Nat) : List Int := ((List.range k).map fun (j : Nat) => a + 1 + (j : Int)).filter fun b => decide (Sees f a b)
theorem duel_succ (f : Int → Int) (a : Int) (k : Nat) : duel f a (k + 1) = duel f a k ++ (open Classical in if Sees f a (a + 1 + k) then [a + 1 + (k : Int)] else []) := by
  unfold duel
  rw [List.range_succ, List.map_append, List.filter_append]
  congr 1
  by_cases h : Sees f a (a + 1 + k)
  · simp [h]
  · simp [h]
theorem lat_eq (f : Int → Int) (a : Int) : ∀ k : Nat, lat f a k = duel f a k
  | 0 => rfl
  | k + 1 => by
    rw [duel_succ, ← lat_eq f a k]
    have z := lat_ok f a k
    conv => lhs; unfold lat
    rcases z with ⟨e, rfl⟩ | ⟨q, e, h1, h2, h3⟩
    · rw [e]
      have : Sees f a (a + 1 + (0 : Nat)) := fun k k1 k2 => by omega
      rw [if_pos this]
      simp
    · rw [e]
      dsimp only
      by_cases z : Bl f a q (a + 1 + k)
      · have : Sees f a (a + 1 + k) := fun j j1 j2 => nbl_trans j1 h1 (by omega) (h3 j j1 (by omega)) z
        rw [if_pos z, if_pos this]
      · have : ¬ Sees f a (a + 1 + k) := fun s => z (s q h1 (by omega))
        rw [if_neg z, if_neg this]
        simp

open Classical in
open Classical in
open Classical in
open Classical in
/-! the tower -/
end Mine

set_option autoImplicit false
namespace Mine
open Classical

/-! the fewest hops -/
section
variable {f : Int → Int} {n : Nat} {a L : Int} {row fresh so : List Int} {k : Nat} {d : Int → Int}
end
end Mine

set_option autoImplicit false
namespace Mine
open PySem PySem.W

def Keep (hp hp' : List O) : Prop := ∀ (q : Nat) (o : O), hp[q]? = some o → hp'[q]? = some o
theorem Keep.refl {hp : List O} : Keep hp hp := fun _ _ h => h
theorem Keep.app {hp hp' t : List O} (h : Keep hp hp') : Keep hp (hp' ++ t) := fun q o e => app_get (h q o e)
theorem Keep.trans {a b c : List O} (h : Keep a b) (h' : Keep b c) : Keep a c := fun q o e => h' q o (h q o e)
theorem set_get {hp : List O} {i j : Nat} {o o' : O} (h : hp[j]? = some o) (ne : i ≠ j) : (hp.set i o')[j]? = some o := by rw [List.getElem?_set_ne ne]; exact h
theorem set_at {hp : List O} {i : Nat} {o o' : O} (h : hp[i]? = some o) : (hp.set i o')[i]? = some o' := by
  rw [List.getElem?_set_self (get_lt h)]
theorem Keep.set {hp hp' : List O} {i : Nat} {o : O} (h : Keep hp hp') (hi : hp.length ≤ i) : Keep hp (hp'.set i o) := fun q o' e => set_get (h q o' e) (by have := get_lt e; omega)
end Mine

set_option autoImplicit false
namespace Mine
open Classical

/-! the way of the fewest hops -/
/-! the rounds of the other reckoning -/
section
variable {f d e : Int → Int} {n : Nat} {b m h : Int}
end
/-! on a line -/
end Mine

set_option autoImplicit false
namespace Mine
open PySem PySem.W PySem.Calls PySem.Spec PyProof.Rows
section
variable {c : Cx} {X : XP} {l : Lo} {hp : List O} {pg : Pg} {sc : Scope} {ns : List Int} {lev : Nat} {qt : Bool}
end
end Mine

set_option autoImplicit false
namespace Mine
open Classical

/-! the pairs that see each other -/
/-- the pairs of the first k places -/
def sgN (f : Int → Int) (n : Nat) : Nat → List (Int × Int)
  | 0 => []
  | k + 1 => sgN f n k ++ (lat f k (n - 1 - k)).map fun b => ((k : Int), b)
def sg (f : Int → Int) (n : Nat) : List (Int × Int) := sgN f n n
theorem sgN_len (f : Int → Int) (n : Nat) : ∀ k : Nat, k ≤ n → (sgN f n k).length ≤ k * n
  | 0, _ => by simp [sgN]
  | k + 1, hk => by
    rw [sgN, List.length_append, List.length_map, lat_eq]
    have := sgN_len f n k (by omega)
    have h2 : (duel f k (n - 1 - k)).length ≤ n - 1 - k := by
      unfold duel
      exact Nat.le_trans (List.length_filter_le _ _) (by simp)
    rw [Nat.succ_mul]
    omega
theorem sg_len (f : Int → Int) (n : Nat) : (sg f n).length ≤ n * n := sgN_len f n n (Nat.le_refl _)
/-! a line, a curve -/
end Mine

set_option autoImplicit false
namespace Mine
open Classical

/-! a land tilted, stretched, turned -/
end Mine

set_option autoImplicit false
namespace Mine
open Classical

/-! the fewest hops are there -/
end Mine

set_option autoImplicit false
namespace Mine
open PySem PySem.W PySem.Calls PySem.Spec PyProof.Rows

/-! a chain of three comparisons; pairs in order -/
section
variable {fx : Fx} {X : XP} {σ : St} {W : Wd} {s : Shared}
end
section
variable {c : Cx} {X : XP} {l : Lo} {hp : List O} {K : KV} {p : Pos}
end
end Mine

set_option autoImplicit false
namespace Mine
open PySem PySem.W PySem.Calls PySem.Spec PyProof.Rows

/-! dicts whose keys are tuples of numbers -/
def insK (k : List Int) (ks : List (List Int)) : List (List Int) := if k ∈ ks then ks else ks ++ [k]
theorem mem_insK {k j : List Int} {ks : List (List Int)} : j ∈ insK k ks ↔ j = k ∨ j ∈ ks := by
  unfold insK
  split
  · rename_i h
    constructor
    · exact .inr
    · rintro (rfl | x)
      · exact h
      · exact x
  · simp [or_comm]
theorem atKey_mem (xs : List (List Int × Addr × Value)) (k : List Int) : (atKey xs k).isSome = decide (k ∈ xs.map (·.1)) := by
  unfold atKey
  rw [Option.isSome_map, List.isSome_find?, Bool.eq_iff_iff, List.any_eq_true, decide_eq_true_eq, List.mem_map]
  constructor
  · rintro ⟨x, h1, h2⟩; exact ⟨x, h1, by simpa using h2⟩
  · rintro ⟨x, h1, h2⟩; exact ⟨x, h1, by simpa using h2⟩
theorem storedH_keys (xs : List (List Int × Addr × Value)) (k : List Int) (a : Addr) (v : Value) : (storedH xs k a v).map (·.1) = insK k (xs.map (·.1)) := by
  unfold storedH insK
  rw [atKey_mem]
  by_cases h : k ∈ xs.map (·.1)
  · rw [if_pos h, if_pos (decide_eq_true h), List.map_map]
    refine List.map_congr_left fun x _ => ?_
    unfold putAt
    dsimp only [Function.comp]
    split <;> rfl
  · rw [if_neg h, if_neg (by rw [decide_eq_false h]; decide)]
    simp
section
variable {fx : Fx} {X : XP} {σ : St} {W : Wd} {s : Shared}
theorem itemsAre_of {prog : Program} {w : World} : ∀ {ks : List Int} {us : List Value}, VRs W (ks.map .int) us → ItemsAre (intKind prog w) ks us
  | [], _, .nil => .nil
  | k :: ks, _, .cons a b => by
    cases a
    exact .cons (by simp [intKind, Value.isInt]) (itemsAre_of b)
theorem Rep.key_at (R : Rep fx σ W s) {prog : Program} {w : World} {ks : List Int} {a : Addr} {us : List Value} (h : (a, us) ∈ W.tp) (h' : VRs W (ks.map .int) us) : IsTupleKey (intKind prog w) s.heap ks a := by
  refine R.elim fun _ g m news _ _ N C => ?_
  exact ⟨_, us.toArray, 0, (N _ (C.tps _ h)).1, rfl, rfl, by simpa using itemsAre_of h'⟩
theorem Rep.tab_at (R : Rep fx σ W s) {i : Nat} {ks : List (List Int)} {u : Value} (ho : σ.hp[i]? = some (.tab ks)) (r : VR W (.ref i) u) :
    ∃ a xs, u = .ref a ∧ W.al[i]? = some a ∧ (a == sysModules) = false ∧ s.heap.DictOfH (tupleKind (intKind fx.pg.prog fx.pg.w)) a xs ∧ xs.map (·.1) = ks ∧ ∀ x ∈ xs, ∃ us, (x.2.1, us) ∈ W.tp ∧ VRs W (x.1.map .int) us := by
  cases r with
  | ref e =>
    have R' := R
    refine R.elim fun _ g m news _ _ N C => ?_
    obtain ⟨a, ob, h1, h2, h3⟩ := C.obs i _ ho
    rw [e] at h1
    cases h1
    cases h3 with
    | tab lo ex dat ent e1 nd tp => exact ⟨_, _, rfl, e, lo, ⟨ob, _, _, (N _ h2).1, ex, dat, ent, fun x hx => let ⟨us, q1, q2⟩ := tp x hx; R'.key_at q1 q2, e1 ▸ nd⟩, e1, tp⟩
theorem in_tabT (hu : fx.A.units + 64 < cLine) {i : Nat} {T : List (List Int)} {ks : List Int} {Q : V → St → Prop} (ho : σ.hp[i]? = some (.tab T)) :
    (Q (.bool (decide (ks ∈ T))) σ → CmpT fx X .In (.tup (ks.map .int)) (.ref i) σ Q) ∧ (Q (.bool (!decide (ks ∈ T))) σ → CmpT fx X .NotIn (.tup (ks.map .int)) (.ref i) σ Q) := by
  have go : ∀ W s u₁ u₂, Rep fx σ W s → VR W (.tup (ks.map .int)) u₁ → VR W (.ref i) u₂ → ∃ p a xs, u₁ = .ref p ∧ u₂ = .ref a ∧ (a == sysModules) = false ∧ s.heap.DictOfH (tupleKind (intKind fx.pg.prog fx.pg.w)) a xs ∧ IsTupleKey (intKind fx.pg.prog fx.pg.w) s.heap ks p ∧ (atKey xs ks).isSome = decide (ks ∈ T) := by
    intro W s u₁ u₂ R r₁ r₂
    obtain ⟨a, xs, rfl, h1, h2, h3, h4, h5⟩ := R.tab_at ho r₂
    cases r₁ with
    | tup m q => exact ⟨_, a, xs, rfl, rfl, h2, h3, R.key_at m q, by rw [atKey_mem, h4]⟩
  constructor
  · intro h W s u₁ u₂ R r₁ r₂
    obtain ⟨p, a, xs, rfl, rfl, h2, h3, h4, h5⟩ := go W s u₁ u₂ R r₁ r₂
    refine wpAny_in_heap (knd := tupleKind (intKind fx.pg.prog fx.pg.w)) (tupleKind_room_in1 (by omega)) h4 h2 h3 ?_
    rw [h5]
    exact PV.here (R.toks _) (.bool _) h
  · intro h W s u₁ u₂ R r₁ r₂
    obtain ⟨p, a, xs, rfl, rfl, h2, h3, h4, h5⟩ := go W s u₁ u₂ R r₁ r₂
    refine wpAny_notIn_heap (knd := tupleKind (intKind fx.pg.prog fx.pg.w)) (tupleKind_room_in1 (by omega)) h4 h2 h3 ?_
    rw [h5]
    exact PV.here (R.toks _) (.bool _) h
theorem set_tabT (hu : fx.A.units + 64 < cLine) {i : Nat} {T : List (List Int)} {ks : List Int} {v : V} {Q : St → Prop} (ho : σ.hp[i]? = some (.tab T)) (hl : T.length ≤ sizeLine) (h : Q ⟨σ.loc, σ.hp.set i (.tab (insK ks T))⟩) : SetT fx X (.ref i) (.tup (ks.map .int)) v σ Q := by
  intro W s u₁ u₂ u₃ R r₁ r₂ r₃
  obtain ⟨a, xs, rfl, h1, h2, h3, h4, h5⟩ := R.tab_at ho r₁
  cases r₂ with
  | tup m q =>
    rename_i us p
    refine wpAny_setItem_heap (knd := tupleKind (intKind fx.pg.prog fx.pg.w)) (tupleKind_room_in1 (by omega)) (R.key_at m q) h3 (fun h' hm' hs => ?_) (by rw [← h4, List.length_map] at hl; exact hl)
    obtain ⟨o', es', ep', ho', hc', hd', he', _, hn'⟩ := hm'
    refine ⟨W, _, .refl _, R.upd ho h1 (o' := .tab (insK ks T)) (.tab h2 hc' hd' he' (by rw [storedH_keys, h4]) (by rw [storedH_keys, h4] at hn'; exact hn') fun x hx => ?_) _ hs.extBut ho', h⟩
    rcases mem_storedH hx with ⟨y, hy, e1, e2⟩ | ⟨e1, e2⟩
    · rw [e1, e2]; exact h5 y hy
    · rw [e1, e2]; exact ⟨us, m, q⟩
theorem evDict0 (ok : FxAll fx) {pos : Pos} {Q : V → St → Prop} (h : Q (.ref σ.hp.length) ⟨σ.loc, σ.hp ++ [.tab []]⟩) : EvE fx X (.Dict [] [] pos) σ Q := by
  intro W s R
  refine wpAny_Dict_empty ?_
  have lo : (s.heap.objs.size == sysModules) = false := by
    have := modules_low (ok.top.nolimit.keeps (ok.stays R))
    exact beq_eq_false_iff_ne.mpr (Nat.ne_of_gt this)
  obtain ⟨W', le, ea, R'⟩ := R.alloc (o := .tab []) (ob := { cls := .type "dict", data := .dict #[] }) s.toks rfl fun W' _ => .tab (xs := []) lo ⟨rfl, rfl, rfl⟩ rfl rfl rfl List.nodup_nil fun x hx => by cases hx
  refine ⟨W', _, _, le, R', .ref ?_, h⟩
  refine R.elim fun _ g m news _ _ N C => ?_
  rw [ea, ← C.len]
  simp
end
section
variable {c : Cx} {X : XP} {l : Lo} {hp : List O} {K : KV} {p : Pos}
theorem e_dict0 (h : K (.ref hp.length) l (hp ++ [.tab []])) : E c X (.Dict [] [] p) l hp K := by
  unfold E
  exact fun fx F => evDict0 F.all h
theorem cmp_nin2 {i : Nat} {T : List (List Int)} {a b : Int} (e : hp[i]? = some (.tab T)) (h : K (.bool (!decide ([a, b] ∈ T))) l hp) : Cmp c X .NotIn (.tup [.int a, .int b]) (.ref i) l hp K := by
  unfold Cmp
  exact fun fx F => (in_tabT (ks := [a, b]) F.units e).2 h
theorem st_tab {i : Nat} {T : List (List Int)} {a b : Int} {v : V} {K : Lo → List O → Prop} (e : hp[i]? = some (.tab T)) (s : Side (T.length ≤ sizeLine)) (h : K l (hp.set i (.tab (insK [a, b] T)))) : Set' c X (.ref i) (.tup [.int a, .int b]) v l hp K := by
  unfold Set'
  exact fun fx F => set_tabT (ks := [a, b]) F.units e s.h h
end
end Mine

set_option autoImplicit false
namespace Mine
open PySem PySem.W PySem.Calls PySem.Spec PyProof.Rows

/-! lists of pairs of numbers -/
def pV (p : Int × Int) : V := .tup [.int p.1, .int p.2]
def pD (p : Int × Int) : PyData := .tuple [.int p.1, .int p.2]
theorem dats_pairs (hp : List O) : ∀ ps : List (Int × Int), Dats hp (ps.map pV) (ps.map pD)
  | [] => .nil
  | _ :: r => .cons (.tup (.cons (.int _) (.cons (.int _) .nil))) (dats_pairs hp r)
theorem lay_pairs : ∀ ps : List (Int × Int), PyData.canLayAll0 (ps.map pD) = true ∧ PyData.depthAll (ps.map pD) ≤ 2
  | [] => ⟨by simp [PyData.canLayAll0], by simp [PyData.depthAll]⟩
  | n :: r => by
    have := lay_pairs r
    simp [pD, PyData.canLayAll0, PyData.depthAll, PyData.canLay0, PyData.depth, this.1] at *
    omega
theorem shaped_pairs (ps : List (Int × Int)) : PySem.SeqAt.shaped (.list (ps.map pD)) = true := by
  have := lay_pairs ps
  simp [PySem.SeqAt.shaped, PyData.canLay0, PyData.depth, this.1]
  omega
theorem eqv_pair (p q : Int × Int) : PyData.eqv (pD p) (pD q) = decide (p = q) := by
  obtain ⟨a, b⟩ := p
  obtain ⟨c, d⟩ := q
  unfold pD
  simp only [PyData.eqv, PyData.eqvAll, Bool.and_true]
  rw [Bool.eq_iff_iff]
  simp
theorem eqvAll_pairs : ∀ ps qs : List (Int × Int), PyData.eqvAll (ps.map pD) (qs.map pD) = decide (ps = qs)
  | [], [] => by simp [PyData.eqvAll]
  | [], _ :: _ => by simp [PyData.eqvAll]
  | _ :: _, [] => by simp [PyData.eqvAll]
  | p :: ps, q :: qs => by
    simp only [List.map_cons, PyData.eqvAll, eqv_pair, eqvAll_pairs ps qs, List.cons.injEq]
    by_cases h1 : p = q <;> by_cases h2 : ps = qs <;> simp [h1, h2]
section
variable {c : Cx} {X : XP} {l : Lo} {hp : List O} {K : KV}
theorem cmp_pairs_eq {i j : Nat} {xs ys : List (Int × Int)} (h1 : hp[i]? = some (.list (xs.map pV))) (h2 : hp[j]? = some (.list (ys.map pV))) (h : K (.bool (decide (xs = ys))) l hp) : Cmp c X .Eq (.ref i) (.ref j) l hp K :=
  cmp_deq (.list h1 (dats_pairs hp xs)) (.list h2 (dats_pairs hp ys)) (shaped_pairs xs) (shaped_pairs ys) (by rw [show PyData.eqv (.list (xs.map pD)) (.list (ys.map pD)) = decide (xs = ys) by rw [PyData.eqv]; exact eqvAll_pairs xs ys]; exact h)
theorem cmp_pairs_ne {i j : Nat} {xs ys : List (Int × Int)} (h1 : hp[i]? = some (.list (xs.map pV))) (h2 : hp[j]? = some (.list (ys.map pV))) (h : K (.bool (!decide (xs = ys))) l hp) : Cmp c X .NotEq (.ref i) (.ref j) l hp K :=
  cmp_dne (.list h1 (dats_pairs hp xs)) (.list h2 (dats_pairs hp ys)) (shaped_pairs xs) (shaped_pairs ys) (by rw [show PyData.eqv (.list (xs.map pD)) (.list (ys.map pD)) = decide (xs = ys) by rw [PyData.eqv]; exact eqvAll_pairs xs ys]; exact h)
theorem map_appP (xs : List (Int × Int)) (x : Int × Int) : xs.map pV ++ [pV x] = (xs ++ [x]).map pV := by simp
end
end Mine

set_option autoImplicit false
namespace Mine
open PySem PySem.W PySem.Calls PySem.Spec PyProof.Rows

/-! the sort of a list, by a key that tells any two items apart -/
section
variable {prog : Program} {w : World} {A : Around} {E : Value → Shared → Prop} {s : Shared} {κ : SortKind} {key : Value → Int} {a₀ : Array Keyed} {st : SortSt}
end
end Mine

set_option autoImplicit false
namespace Mine
open PySem PySem.W PySem.Calls PySem.Spec PyProof.Rows

section
variable {prog : Program} {w : World} {A : Around} {E : Value → Shared → Prop} {s : Shared} {κ : SortKind} {key : Value → Int} {a₀ : Array Keyed} {st : SortSt}
end
end Mine

set_option autoImplicit false
namespace Mine
open PySem PySem.W PySem.Calls PySem.Spec PyProof.Rows

/-! two sorted rows are joined -/
section
variable {key : Value → Int}
variable {a b out : Array Keyed} {ia ib k : Nat} {x : Keyed}
end
end Mine

set_option autoImplicit false
namespace Mine
open PySem PySem.W PySem.Calls PySem.Spec PyProof.Rows

section
variable {prog : Program} {w : World} {A : Around} {E : Value → Shared → Prop} {s : Shared} {κ : SortKind} {key : Value → Int} {a₀ : Array Keyed} {st st' : SortSt}
end
end Mine

set_option autoImplicit false
namespace Mine
open PySem PySem.W PySem.Calls PySem.Spec PyProof.Rows

/-! the same from behind -/
section
variable {key : Value → Int}
variable {a b out : Array Keyed} {na nb k : Nat} {x : Keyed}
end
end Mine

set_option autoImplicit false
namespace Mine
open PySem PySem.W PySem.Calls PySem.Spec PyProof.Rows

section
variable {prog : Program} {w : World} {A : Around} {E : Value → Shared → Prop} {s : Shared} {κ : SortKind} {key : Value → Int} {a₀ : Array Keyed} {st st' : SortSt}
end
end Mine

set_option autoImplicit false
namespace Mine
open PySem PySem.W PySem.Calls PySem.Spec PyProof.Rows

section
variable {prog : Program} {w : World} {A : Around} {E : Value → Shared → Prop} {s : Shared} {κ : SortKind} {key : Value → Int} {a₀ : Array Keyed} {st : SortSt}
end
end Mine

set_option autoImplicit false
namespace Mine
open PySem PySem.W PySem.Calls PySem.Spec PyProof.Rows

section
variable {prog : Program} {w : World} {A : Around} {E : Value → Shared → Prop} {s : Shared} {κ : SortKind} {key : Value → Int} {a₀ : Array Keyed} {st : SortSt}
end
end Mine

set_option autoImplicit false
namespace Mine
open PySem PySem.W PySem.Calls PySem.Spec PyProof.Rows

/-! sorted, of a list of pairs -/
section
variable {prog : Program} {w : World} {A : Around} {E : Value → Shared → Prop} {s : Shared}
end
section
variable {fx : Fx} {X : XP} {σ : St} {W : Wd} {s : Shared}
end
section
variable {c : Cx} {X : XP} {l : Lo} {hp : List O} {K : KV}
end
end Mine

set_option autoImplicit false
namespace Mine
open PySem PySem.W PySem.Calls PySem.Spec PyProof.Rows

/-- the same frame, deeper within the machine -/
def Fx.sh (fx : Fx) (A : Around) (lev : Nat) : Fx := { fx with A := A, lev := lev }
section
variable {fx : Fx} {A : Around} {lev : Nat} {σ : St} {W : Wd} {s : Shared} {m : Str → Option Value} {news : List (Addr × Obj)}
theorem NameAt.sh {x : Str} {u : Value} : NameAt (fx.sh A lev) m news x u ↔ NameAt fx m news x u := by
  constructor <;> intro h <;> cases h with
  | loc a b c => exact .loc a b c
  | comp a b c => exact .comp a b c
  | cell a b c d => exact .cell a b c d
theorem Core.sh : Core (fx.sh A lev) σ W m news ↔ Core fx σ W m news := by
  constructor <;> intro C
  · exact ⟨C.nd, C.exs, C.exd, C.aln, C.len, C.obs, C.tps, fun x v h => let ⟨u, a, b⟩ := C.loc x v h; ⟨u, a, NameAt.sh.mp b⟩, C.cel, C.scc, C.mfx, C.ext⟩
  · exact ⟨C.nd, C.exs, C.exd, C.aln, C.len, C.obs, C.tps, fun x v h => let ⟨u, a, b⟩ := C.loc x v h; ⟨u, a, NameAt.sh.mpr b⟩, C.cel, C.scc, C.mfx, C.ext⟩
theorem Rep.sh (R : Rep (fx.sh A lev) σ W s) : Rep fx σ W s := by
  refine R.elim fun er g m news G F N C => ?_
  exact ⟨er, g, m, news, G, F, N, Core.sh.mp C⟩
theorem XRep.sh {e : Addr} {cls : Value} {k : Kd} (x : XRep (fx.sh A lev) σ W e cls k s) : XRep fx σ W e cls k s := by
  obtain ⟨r, g, m, news, B, c, f⟩ := x
  exact ⟨r, g, m, news, B, ⟨c.turn, c.dic, c.size, c.ns, c.gB, c.fr, c.nw, Core.sh.mp c.core, c.base⟩, f⟩
theorem FxAll.sh (a : FxAll fx) (hl : lev + 1 ≤ fx.lev) (h1 : A.handled = fx.A.handled) (h2 : A.frames = fx.A.frames) (h3 : A.depth ≤ fx.A.depth + 1) (h4 : A.units ≤ fx.A.units + 8) : FxAll (fx.sh A lev) :=
  { ok := ⟨a.ok.kind, fun q => h1.trans (a.ok.handled q)⟩
    locs := a.locs
    cex := a.cex
    cinj := a.cinj
    cdef := a.cdef
    scr := a.scr
    egl := a.egl
    ebu := a.ebu
    top := a.top
    part := a.part
    below := a.below
    dicts := a.dicts
    frs := h2.trans a.frs
    ffr := a.ffr
    fkd := a.fkd
    depth := by have := a.depth; show A.depth + lev < recursionLimit; omega
    room := by have := a.room; show A.units + 8 * lev + 100 < cLine; omega
    mfn := a.mfn
    envf := a.envf }
end

theorem tc_envs (args : Args) : (Code.builtin "type.__call__" args).envs = [] := by kernel_rfl
theorem tc_units (args : Args) : (Code.builtin "type.__call__" args).cUnits = 1 := by kernel_rfl
theorem tc_weight (C : Addr) (us : List Value) : (Code.builtin "type.__call__" ⟨.ref C :: us, []⟩).weight = 1 := by kernel_rfl

/-- a class of the text, called -/
theorem callOK_class {pg : Pg} {C fI : Addr} {lev : Nat} {qt : Bool} {ns : List Int} {vs : List V} {hp : List O} {X : Value → List O → Prop} {Q : V → List O → Prop}
    (hm : makesIn pg.K C = true) (hi : findIn pg.K (.ref C) "__init__" = some (some (.ref fI))) (hf : typeIn pg.K (.ref fI) = some (.type "function"))
    (h : CallOK pg lev qt ns fI (.ref (hp.length + 1) :: vs) (hp ++ [.att []] ++ [.inst C hp.length]) X (fun v hp' => v = .none ∧ Q (.ref (hp.length + 1)) hp')) : CallOK pg (lev + 1) qt ns C vs hp X Q := by
  rintro fx all rfl hlev hns hqt loc W s us R r
  have stB := all.stays R
  have X' := all.part.keeps stB
  refine R.elim fun er g m news G F N C' => ?_
  refine make_K F N X' hm hi hf fun x dx h' F' N' lt1 lt2 => ?_
  have hlen := C'.len
  have C1 := C'.add (a := dx) (ob := emptyDict) (o := .att []) (fun p hp => Nat.ne_of_lt (lt1 p hp)) fun W' _ => .att (ds := []) (ep := 0) trivial
  have C2 := C1.add (a := x) (ob := instObj C dx) (o := .inst C hp.length) (fun p hp => by
    rcases List.mem_cons.mp hp with rfl | hp
    · exact Nat.ne_of_lt lt2
    · exact Nat.ne_of_lt (Nat.lt_trans (lt1 p hp) lt2)) fun W' le => .inst (prefix_get le.1 (by simp [hlen]))
  have R' : Rep (fx.sh (fx.A.under (.builtin "type.__call__" ⟨.ref C :: us, []⟩)) (fx.lev - 1)) ⟨loc, hp ++ [.att []] ++ [.inst C hp.length]⟩ ⟨W.al ++ [dx] ++ [x], W.tp, W.sc⟩ { s with heap := h' } := ⟨rest_heap er _, g, m, _, G, F', N', Core.sh.mpr C2⟩
  have le : W.le ⟨W.al ++ [dx] ++ [x], W.tp, W.sc⟩ := ⟨by rw [List.append_assoc]; exact List.prefix_append _ _, fun _ h => h, rfl⟩
  refine codeAny_mono (h (fx.sh (fx.A.under (.builtin "type.__call__" ⟨.ref C :: us, []⟩)) (fx.lev - 1)) (all.sh (by omega) rfl (by unfold Around.under; dsimp only; rw [tc_envs]; rfl) (Nat.le_of_eq (congrArg (fx.A.depth + ·) (tc_weight C us))) (by unfold Around.under; dsimp only; rw [tc_units]; omega)) rfl (show lev ≤ fx.lev - 1 by omega) hns hqt loc _ _ (.ref x :: us) R' (.cons (.ref (by
    simp [hlen])) (r.mono le))) fun r s' z => ?_
  rcases r with e | (_ | _ | v | _)
  all_goals first | exact z.elim | skip
  · obtain ⟨e', cls, k, W', σ', a, b, c, d⟩ := z
    exact ⟨e', cls, k, W', σ', a, le.trans b, c.sh, d⟩
  · obtain ⟨W', σ', v', a, b, c, d, e, f⟩ := z
    subst e
    cases c
    refine ⟨rfl, W', σ', _, le.trans a, b.sh, .ref (prefix_get a.1 (by simp [hlen])), d, f⟩

end Mine

set_option autoImplicit false
namespace Mine
open PySem PySem.W PySem.Calls PySem.Spec PyProof.Rows

theorem AttE.get {W : Wd} {x : Str} {v : V} : ∀ {es : List (Str × V)} {ds : List DictEntry}, AttE W es ds → es.lookup x = some v → ∃ d, ds.find? (·.key.isStr x) = some d ∧ VR W v d.val
  | [], [], _, h => by cases h
  | (y, u) :: es, d :: ds, ⟨⟨t, a⟩, b, c⟩, h => by
    rw [List.lookup_cons] at h
    rw [List.find?_cons, a]
    show ∃ d', (match y == x with | true => some d | false => _) = some d' ∧ _
    by_cases q : x = y
    · subst q
      rw [beq_self_eq_true] at h ⊢
      cases h
      exact ⟨d, rfl, b⟩
    · rw [beq_eq_false_iff_ne.mpr q] at h
      rw [beq_eq_false_iff_ne.mpr (Ne.symm q)]
      exact AttE.get c h
  | [], _ :: _, h, _ => h.elim
  | _ :: _, [], h, _ => h.elim
theorem AttE.nothing {W : Wd} {x : Str} : ∀ {es : List (Str × V)} {ds : List DictEntry}, AttE W es ds → es.lookup x = none → ds.find? (·.key.isStr x) = none ∧ ds.any (·.refKey) = false ∧ ds.any (·.key.isStr x) = false
  | [], [], _, h => ⟨rfl, rfl, rfl⟩
  | (y, u) :: es, d :: ds, ⟨⟨t, a⟩, b, c⟩, h => by
    rw [List.lookup_cons] at h
    by_cases q : x = y
    · subst q
      rw [beq_self_eq_true] at h
      cases h
    · rw [beq_eq_false_iff_ne.mpr q] at h
      obtain ⟨k1, k2, k3⟩ := AttE.nothing c h
      have e : d.key.isStr x = false := by rw [a]; exact beq_eq_false_iff_ne.mpr (Ne.symm q)
      refine ⟨?_, ?_, ?_⟩
      · rw [List.find?_cons, e]; exact k1
      · rw [List.any_cons, k2]; simp [DictEntry.refKey, a]
      · rw [List.any_cons, k3, e]; rfl
  | [], _ :: _, h, _ => h.elim
  | _ :: _, [], h, _ => h.elim
theorem AttE.put {W : Wd} {x : Str} {v : V} {u : Value} {hs : Int} {t : Tok} (hv : VR W v u) : ∀ {es : List (Str × V)} {ds : List DictEntry}, AttE W es ds → es.lookup x = none → AttE W (es ++ [(x, v)]) (putL x hs (.str x t) u ds) ∧ (putL x hs (.str x t) u ds).length = es.length + 1
  | [], [], _, _ => ⟨⟨⟨t, rfl⟩, hv, trivial⟩, rfl⟩
  | (y, w) :: es, d :: ds, ⟨⟨t', a⟩, b, c⟩, h => by
    rw [List.lookup_cons] at h
    by_cases q : x = y
    · subst q
      rw [beq_self_eq_true] at h
      cases h
    · rw [beq_eq_false_iff_ne.mpr q] at h
      have e : d.key.isStr x = false := by rw [a]; exact beq_eq_false_iff_ne.mpr (Ne.symm q)
      obtain ⟨k1, k2⟩ := AttE.put hv c h
      have e' : putL x hs (.str x t) u (d :: ds) = d :: putL x hs (.str x t) u ds := by rw [putL, e]; rfl
      rw [e']
      exact ⟨⟨⟨t', a⟩, b, k1⟩, by rw [List.length_cons, k2]; rfl⟩
  | [], _ :: _, h, _ => h.elim
  | _ :: _, [], h, _ => h.elim

theorem upd_of {d : Addr} {o o' : Obj} : ∀ {l : List (Addr × Obj)}, (l.map (·.1)).Nodup → (d, o) ∈ l → Upd d o o' l (setL d o' l)
  | p :: r, nd, h => by
    rw [List.map_cons, List.nodup_cons] at nd
    rcases List.mem_cons.mp h with rfl | h
    · have ne : ∀ p ∈ r, p.1 ≠ d := fun p hp q => nd.1 (List.mem_map.mpr ⟨p, hp, q⟩)
      have e : setL d o' ((d, o) :: r) = (d, o') :: r := by
        unfold setL
        rw [List.map_cons]
        congr 1
        · simp
        · exact (List.map_congr_left fun p hp => by simp [ne p hp]).trans (List.map_id _)
      rw [e]
      exact .head ne
    · have ne : p.1 ≠ d := fun q => nd.1 (List.mem_map.mpr ⟨_, h, q.symm⟩)
      have e : setL d o' (p :: r) = p :: setL d o' r := by
        unfold setL
        rw [List.map_cons]
        congr 1
        simp [ne]
      rw [e]
      exact .tail ne (upd_of nd.2 h)

/-- what the class says of an attribute of its instances' own -/
structure AttOk (K : Frag) (C : Addr) (name : Str) : Prop where
  get : plainGet K C name = true
  dic : hasDictIn K C = true
  no : findIn K (.ref C) name = some none
  set : findIn K (.ref C) "__setattr__" = some (some (.builtin "object.__setattr__"))
  ov : plainOver K C = true
  tk : takerIn K C name = some none
section
variable {fx : Fx} {X : XP} {σ : St}
theorem Core.inst {W : Wd} {m : Str → Option Value} {news : List (Addr × Obj)} {g h : Heap} {L : Addr} (C' : Core fx σ W m news) (N : News g L h news) {i j : Nat} {C : Addr} {es : List (Str × V)} (h1 : σ.hp[i]? = some (.inst C j)) (h2 : σ.hp[j]? = some (.att es)) :
    ∃ a dx ds ep, W.al[i]? = some a ∧ W.al[j]? = some dx ∧ (dx, dictOf ds ep) ∈ news ∧ AttE W es ds ∧ InstAt h a (instObj C dx) C (some (dictOf ds ep)) := by
  obtain ⟨a, ob, a1, a2, a3⟩ := C'.obs i _ h1
  obtain ⟨b, ob', b1, b2, b3⟩ := C'.obs j _ h2
  cases a3 with
  | inst e =>
    rw [b1] at e
    cases e
    cases b3 with
    | att c => exact ⟨a, b, _, _, a1, b1, b2, c, ⟨(N _ a2).1, rfl, rfl, (N _ b2).1⟩⟩

theorem evAttr (all : FxAll fx) {x attr : Str} {xp pos : Pos} {Q : V → St → Prop} (h : EvE fx X (.Name x xp) σ (fun v σ₁ => ∃ i j C es k, v = .ref i ∧ σ₁.hp[i]? = some (.inst C j) ∧ σ₁.hp[j]? = some (.att es) ∧ es.lookup attr = some (.ref k) ∧ AttOk fx.pg.K C attr ∧ Q (.ref k) σ₁)) :
    EvE fx X (.Attribute (.Name x xp) attr pos) σ Q := by
  intro W s R
  refine Attribute_Name_ (wpAny_mono (h W s R) ?_ fun _ _ x => x)
  refine fun u₁ s₁ zz => zz.elim fun W₁ σ₁ v₁ le₁ R₁ r₁ h₁ => ?_
  obtain ⟨i, j, C, es, k, rfl, e1, e2, e3, ok, q⟩ := h₁
  have st := all.stays R₁
  refine R₁.elim fun er g m news G F N C' => ?_
  obtain ⟨a, dx, ds, ep, a1, a2, a3, a4, a5⟩ := C'.inst N e1 e2
  cases r₁ with
  | ref e =>
    rw [a1] at e
    cases e
    obtain ⟨d, d1, d2⟩ := a4.get e3
    refine get_own (K := fx.pg.K) F (fun b o e => (all.ground G).1.stays b o (all.part b o e)) a5 ok.get ok.dic ok.no rfl (v := d.val) (by unfold getL; rw [d1]) (by generalize d.val = z at d2; cases d2; rfl) ⟨W₁, σ₁, _, le₁, R₁.toks _, d2, q⟩

theorem evAssignAttr (all : FxAll fx) {o e : Expr} {attr : Str} {p pos : Pos} {Q : Fl → St → Prop}
    (h : EvE fx X e σ (fun v σ₁ => EvE fx X o σ₁ (fun ov σ₂ => ∃ i j C es, ov = .ref i ∧ σ₂.hp[i]? = some (.inst C j) ∧ σ₂.hp[j]? = some (.att es) ∧ es.lookup attr = none ∧ es.length < 100 ∧ AttOk fx.pg.K C attr ∧ Q .next ⟨σ₂.loc, σ₂.hp.set j (.att (es ++ [(attr, v)]))⟩))) (hc : notComp e = true) :
    EvS fx X (.Assign [.Attribute o attr p] e pos) σ Q := by
  intro W s R
  refine plainObj_wpAny_Assign_Attribute (wpAny_mono (h W s R) ?_ fun _ _ x => x) (swaps_false hc _ _ _)
  refine fun u₁ s₁ zz => zz.elim fun W₁ σ₁ v₁ le₁ R₁ r₁ h₁ => ?_
  refine wpAny_mono (h₁ W₁ s₁ R₁) ?_ fun _ _ x => x.mono le₁ fun _ _ y => y
  refine fun u₂ s₂ zz => zz.elim fun W₂ σ₂ v₂ le₂ R₂ r₂ h₂ => ?_
  obtain ⟨i, j, C, es, rfl, e1, e2, e3, e4, ok, q⟩ := h₂
  refine R₂.elim fun er g m news G F N C' => ?_
  obtain ⟨a, dx, ds, ep, a1, a2, a3, a4, a5⟩ := C'.inst N e1 e2
  cases r₂ with
  | ref z =>
    rw [a1] at z
    cases z
    obtain ⟨n1, n2, n3⟩ := a4.nothing e3
    obtain ⟨p1, p2⟩ := AttE.put (hs := PyData.keyHash fx.pg.w.params attr) (t := s₂.toks + 1) (r₁.mono le₂) a4 e3
    refine set_dict (K := fx.pg.K) F (fun b o e => (all.ground G).1.stays b o (all.part b o e)) N a5 rfl ok.set ok.ov ok.tk ok.dic (by unfold getL; rw [n1, n2]; rfl) rfl (upd_of C'.nd a3) (by rw [p2]; omega) fun h' F' N' => ?_
    exact ⟨W₂, _, .next, le₁.trans le₂, ⟨rest_with er _ _, g, m, _, G, F', N', C'.upd e2 a2 (.att p1)⟩, .next, q⟩
end
end Mine

set_option autoImplicit false
namespace Mine
open PySem PySem.W PySem.Calls PySem.Spec PyProof.Rows

/-- what the class says of a method -/
structure MthOk (K : Frag) (C : Addr) (name : Str) (f : Addr) : Prop where
  get : plainGet K C name = true
  fn : findIn K (.ref C) name = some (some (.ref f))
  isf : isFn K (.ref f) = true
  keep : keepIn K (.ref f) = true
section
variable {fx : Fx} {X : XP} {σ : St}
theorem evMethOwn (all : FxAll fx) {o : Expr} {name : Str} {apos pos : Pos} {args : List Expr} {Q : V → St → Prop} (hb : baseOk o = true) (ha : args.all noStar = true) (hn : args.length < 30) (hp : (apos.endLine == pos.line) = true)
    (h : EvE fx X o σ (fun ov σ₁ => ∃ i j C es f, ov = .ref i ∧ σ₁.hp[i]? = some (.inst C j) ∧ σ₁.hp[j]? = some (.att es) ∧ es.lookup name = none ∧ MthOk fx.pg.K C name f ∧ EvEs fx X args σ₁ (fun vs σ₂ => CallT fx X (.ref f) (.ref i :: vs) σ₂ Q))) : EvE fx X (.Call (.Attribute o name apos) args [] pos) σ Q := by
  intro W s R
  have he : eval (.Call (.Attribute o name apos) args [] pos) fx.env = (do
      let ov ← attributeBase o name fx.env (eval o fx.env)
      standAt apos.atName
      methodCall o name apos pos fx.env ov (args.length + 0) (backTo pos (starEach args fx.env)) []) := rfl
  rw [he, attributeBase_plain hb]
  refine wpAny_bind (wpAny_mono (h W s R) ?_ fun _ _ x => x)
  rintro u s₁ ⟨W₁, σ₁, ov, le₁, R₁, r₁, i, j, C, es, f, rfl, e1, e2, e3, ok, h₁⟩
  refine wpAny_bind (wpAny_standAt ?_)
  unfold methodCall
  have hf : methodCallForm (args.length + 0) (backTo pos (starEach args fx.env)) [] = true := by
    unfold methodCallForm
    rw [star_all ha]
    simp; omega
  rw [hf]
  unfold calleeOf
  simp only [if_true]
  have part : ∀ {σ' : St} {W' : Wd} {s' : Shared}, Rep fx σ' W' s' → fx.pg.K.In s'.heap := fun R' => all.part.keeps (all.stays R')
  refine R₁.elim fun er g m news G F N C' => ?_
  obtain ⟨a, dx, ds, ep, a1, a2, a3, a4, a5⟩ := C'.inst N e1 e2
  obtain ⟨n1, n2, n3⟩ := a4.nothing e3
  have r₁' := r₁
  cases r₁ with
  | ref z =>
    rw [a1] at z
    cases z
    refine wpAny_bind (wpAny_holding (method_inst (K := fx.pg.K) F (fun b o e => (all.ground G).1.stays b o (all.part b o e)) a5 ok.get ok.fn ok.isf (by unfold getL; rw [n1, n2]; rfl) ?_))
    unfold methodCallPos
    simp only [Bool.not_true, Bool.false_or, hp, if_true]
    refine wpAny_bind (wpAny_pure ?_)
    cases args with
    | nil =>
      refine callWith_K0 (part R₁) ok.keep ?_
      have h₂ := h₁ W₁ s₁ pos R₁
      have e0 : spliced (backTo pos (starEach [] fx.env)) = pure [] := rfl
      rw [e0] at h₂
      intro Γ p hΓ
      obtain ⟨W₂, σ₂, vs, le₂, R₂, r₂, h₄⟩ := h₂ Γ p hΓ
      cases r₂
      exact wpAny_mono (h₄ W₂ s₁ [.ref a] R₂ (.cons (r₁'.mono le₂) .nil)) (fun _ _ x => x.mono (le₁.trans le₂) fun _ _ y => y) (fun _ _ x => x.mono (le₁.trans le₂) fun _ _ y => y) Γ p hΓ
    | cons e rest =>
      rw [List.all_cons, Bool.and_eq_true] at ha
      refine callWith_K (part R₁) ok.keep (wpAny_mono (h₁ W₁ s₁ pos R₁) ?_ fun _ _ x => x.mono le₁ fun _ _ y => y) (star_cons ha.1 _ _) (star_any ha.2 _ _)
      refine fun us s₂ zz => zz.elim fun W₂ σ₂ vs le₂ R₂ r₂ h₂ => ?_
      exact ⟨part R₂, wpAny_mono (h₂ W₂ s₂ (.ref a :: us) R₂ (.cons (r₁'.mono le₂) r₂)) (fun _ _ x => x.mono (le₁.trans le₂) fun _ _ y => y) fun _ _ x => x.mono (le₁.trans le₂) fun _ _ y => y⟩
end
end Mine

set_option autoImplicit false
namespace Mine
open PySem PySem.W PySem.Calls PySem.Spec PyProof.Rows
section
variable {fx : Fx} {X : XP} {σ : St}
theorem evCallK (all : FxAll fx) {f : Str} {p pos : Pos} {a : Addr} {e : Expr} {rest : List Expr} {Q : V → St → Prop} (hf : fx.pg.gl f = some (.ref a)) (hk : fx.env.kindOf f = some .globalImplicit) (hd : (f == ("__debug__" : Str)) = false) (hfn : keepIn fx.pg.K (.ref a) = true) (hs : (e :: rest).all noStar = true)
    (h : EvEs fx X (e :: rest) σ (fun vs σ₁ => CallT fx X (.ref a) vs σ₁ Q)) : EvE fx X (.Call (.Name f p) (e :: rest) [] pos) σ Q := by
  intro W s R
  rw [List.all_cons, Bool.and_eq_true] at hs
  refine Call_Name rfl (all.glb f _ p hf hk σ W s _ _ R ?_ hd)
  refine callWith_K (first := []) all.part hfn (wpAny_mono (h W s pos R) ?_ fun _ _ x => x) (star_cons hs.1 _ _) (star_any hs.2 _ _)
  refine fun us s₁ zz => zz.elim fun W₁ σ₁ vs le₁ R₁ r₁ h₁ => ?_
  exact ⟨all.part.keeps (all.stays R₁), wpAny_mono (h₁ W₁ s₁ us R₁ r₁) (fun _ _ x => x.mono le₁ fun _ _ y => y) fun _ _ x => x.mono le₁ fun _ _ y => y⟩
end
/-- an attribute that the object has, or has not yet -/
@[irreducible] def AtG (pg : Pg) (ov : V) (attr : Str) (hp : List O) (P : V → Prop) : Prop := ∃ i j C es k, ov = .ref i ∧ hp[i]? = some (.inst C j) ∧ hp[j]? = some (.att es) ∧ es.lookup attr = some (.ref k) ∧ AttOk pg.K C attr ∧ P (.ref k)
@[irreducible] def AtS (pg : Pg) (ov : V) (attr : Str) (v : V) (hp : List O) (P : List O → Prop) : Prop := ∃ i j C es, ov = .ref i ∧ hp[i]? = some (.inst C j) ∧ hp[j]? = some (.att es) ∧ es.lookup attr = none ∧ es.length < 100 ∧ AttOk pg.K C attr ∧ P (hp.set j (.att (es ++ [(attr, v)])))
@[irreducible] def Mth (pg : Pg) (ov : V) (name : Str) (hp : List O) (P : Nat → Addr → Prop) : Prop := ∃ i j C es f, ov = .ref i ∧ hp[i]? = some (.inst C j) ∧ hp[j]? = some (.att es) ∧ es.lookup name = none ∧ MthOk pg.K C name f ∧ P i f
section
variable {c : Cx} {X : XP} {l : Lo} {hp : List O} {K : KV} {p q r : Pos} {pg : Pg} {sc : Scope} {ns : List Int} {lev : Nat} {qt : Bool}
theorem at_g {i j k : Nat} {C : Addr} {es : List (Str × V)} {attr : Str} {P : V → Prop} (h1 : hp[i]? = some (.inst C j)) (h2 : hp[j]? = some (.att es)) (h3 : es.lookup attr = some (.ref k)) (ok : AttOk pg.K C attr) (h : P (.ref k)) : AtG pg (.ref i) attr hp P := by
  unfold AtG; exact ⟨i, j, C, es, k, rfl, h1, h2, h3, ok, h⟩
theorem at_s {i j : Nat} {C : Addr} {es : List (Str × V)} {attr : Str} {v : V} {P : List O → Prop} (h1 : hp[i]? = some (.inst C j)) (h2 : hp[j]? = some (.att es)) (h3 : es.lookup attr = none) (h4 : es.length < 100) (ok : AttOk pg.K C attr) (h : P (hp.set j (.att (es ++ [(attr, v)])))) : AtS pg (.ref i) attr v hp P := by
  unfold AtS; exact ⟨i, j, C, es, rfl, h1, h2, h3, h4, ok, h⟩
theorem at_m {i j : Nat} {C f : Addr} {es : List (Str × V)} {attr : Str} {P : Nat → Addr → Prop} (h1 : hp[i]? = some (.inst C j)) (h2 : hp[j]? = some (.att es)) (h3 : es.lookup attr = none) (ok : MthOk pg.K C attr f) (h : P i f) : Mth pg (.ref i) attr hp P := by
  unfold Mth; exact ⟨i, j, C, es, f, rfl, h1, h2, h3, ok, h⟩
theorem e_attr {x attr : Str} (hc : CxIs c pg sc ns lev qt) (h : E c X (.Name x q) l hp fun v l hp => AtG pg v attr hp fun w => K w l hp) : E c X (.Attribute (.Name x q) attr p) l hp K := by
  obtain ⟨rfl⟩ := hc
  unfold E AtG at *
  exact fun fx F => evAttr F.all ((h fx F).mono fun v σ ⟨i, j, C, es, k, a1, a2, a3, a4, a5, a6⟩ => ⟨i, j, C, es, k, a1, a2, a3, a4, by rw [F.pg]; exact a5, a6⟩)
theorem s_asgA {o e : Expr} {attr : Str} {K : KF} (hc : CxIs c pg sc ns lev qt) (nc : notComp e = true) (h : E c X e l hp fun v l hp => E c X o l hp fun ov l hp => AtS pg ov attr v hp fun hp => K .next l hp) : S c X (.Assign [.Attribute o attr q] e p) l hp K := by
  obtain ⟨rfl⟩ := hc
  unfold S
  unfold E AtS at h
  exact fun fx F _ => evAssignAttr F.all ((h fx F).mono fun v σ h₁ => (h₁ fx F).mono fun ov σ' ⟨i, j, C, es, a1, a2, a3, a4, a5, a6, a7⟩ => ⟨i, j, C, es, a1, a2, a3, a4, a5, by rw [F.pg]; exact a6, a7⟩) nc
theorem e_meth {o : Expr} {name : Str} {args : List Expr} (hc : CxIs c pg sc ns lev qt) (hb : baseOk o = true) (ha : args.all noStar = true) (hn : Nat.blt args.length 30 = true) (hl : (q.endLine == p.line) = true)
    (h : E c X o l hp fun ov l₁ hp₁ => Mth pg ov name hp₁ fun i f => Es c X args l₁ hp₁ fun vs l hp => CallOK pg lev qt ns f (.ref i :: vs) hp (fun d hp' => X d ⟨l, hp'⟩) (fun v hp' => K v l hp')) : E c X (.Call (.Attribute o name q) args [] p) l hp K := by
  obtain ⟨rfl⟩ := hc
  unfold E Mth Es at *
  refine fun fx F => evMethOwn F.all hb ha (Nat.blt_eq.mp hn) hl ((h fx F).mono fun ov σ ⟨i, j, C, es, f, a1, a2, a3, a4, a5, a6⟩ => ⟨i, j, C, es, f, a1, a2, a3, a4, by rw [F.pg]; exact a5, (a6 fx F).mono fun vs σ h₁ => callT_of (qt := qt) F.all F.lev F.qt (by rw [F.pg, F.ns]; exact h₁)⟩)
theorem e_callK {f : Str} {a : Expr} {args : List Expr} {d : Addr} (hc : CxIs c pg sc ns lev qt) (g : pg.gl f = some (.ref d)) (i : keepIn pg.K (.ref d) = true) (k : sc.names.lookup f = some .globalImplicit) (st : (a :: args).all noStar = true) (h : Es c X (a :: args) l hp fun vs l hp => CallOK pg lev qt ns d vs hp (fun d hp' => X d ⟨l, hp'⟩) (fun v hp' => K v l hp')) : E c X (.Call (.Name f q) (a :: args) [] p) l hp K := by
  obtain ⟨rfl⟩ := hc
  unfold E
  unfold Es at h
  exact fun fx F => evCallK F.all (by rw [F.pg]; exact g) (by rw [F.kind]; exact k) (F.name k).1 (by rw [F.pg]; exact i) st ((h fx F).mono fun vs σ h₁ => callT_of (qt := qt) F.all F.lev F.qt (by rw [F.pg, F.ns]; exact h₁))
end
end Mine

set_option autoImplicit false
namespace Mine
open PySem PySem.W PySem.Calls PySem.Spec PyProof.Rows
section
variable {fx : Fx} {X : XP} {σ : St}
end
section
variable {c : Cx} {X : XP} {l : Lo} {hp : List O} {K : KV}
end
end Mine

set_option autoImplicit false
namespace Mine
open PySem PySem.W PySem.Calls PySem.Spec PyProof.Rows

def augI : Operator → Int → Int → Int
  | .Add, a, b => a + b
  | _, a, b => a - b
section
variable {fx : Fx} {X : XP} {σ : St}
theorem evAug {o e : Expr} {x : Str} {px p pos : Pos} {op : Operator} {Q : Fl → St → Prop} (hop : op = .Add ∨ op = .Sub)
    (h : EvE fx X o σ (fun ov σ₁ => EvE fx X (.Name x px) σ₁ (fun iv σ₂ => ∃ i xs k a, ov = .ref i ∧ iv = .int k ∧ σ₂.hp[i]? = some (.list xs) ∧ 0 ≤ k ∧ k < 2 ^ 63 ∧ xs[k.toNat]? = some (.int a) ∧ EvE fx X e σ₂ (fun v σ₃ => ∃ b, v = .int b ∧ SetT fx X ov iv (.int (augI op a b)) σ₃ (fun σ₄ => Q .next σ₄))))) :
    EvS fx X (.AugAssign (.Subscript o (.Name x px) p) op e pos) σ Q := by
  intro W s R
  refine wpAny_AugAssign_Subscript (wpAny_mono (h W s R) ?_ fun _ _ x => x)
  refine fun u₁ s₁ zz => zz.elim fun W₁ σ₁ v₁ le₁ R₁ r₁ h₁ => ?_
  refine wpAny_mono (h₁ W₁ s₁ R₁) ?_ fun _ _ x => x.mono le₁ fun _ _ y => y
  refine fun u₂ s₂ zz => zz.elim fun W₂ σ₂ v₂ le₂ R₂ r₂ h₂ => ?_
  obtain ⟨i, xs, k, a, rfl, rfl, ho, k0, k1, hx, h₃⟩ := h₂
  obtain ⟨ad, ys, n, rfl, ha, h2, h3⟩ := R₂.list_at ho (r₁.mono le₂)
  obtain ⟨y, hy, hv⟩ := h3.get hx
  cases hv
  have r₂' := r₂
  cases r₂
  refine wpAny_getItem_list (listObj_isList h2) k0 k1 (by simpa using hy) ?_
  have LE := le₁.trans le₂
  refine wpAny_mono (h₃ W₂ s₂ R₂) ?_ fun _ _ x => x.mono LE fun _ _ y => y
  refine fun u₄ s₄ zz => zz.elim fun W₄ σ₄ v₄ le₄ R₄ r₄ h₄ => ?_
  obtain ⟨b, rfl, h₅⟩ := h₄
  cases r₄
  have go : ∀ tk t, wpAny fx.M fx.A (setItem (.ref ad) (.int k _) (.int (augI op a b) t)) (fun _ => PF fx W Q .next) (PX fx W X) { s₄ with toks := tk } := fun tk t => by
    refine wpAny_mono (h₅ W₄ _ _ _ (.int (augI op a b) t) (R₄.toks tk) ((r₁.mono le₂).mono le₄) (r₂'.mono le₄) (.int _ _)) ?_ fun _ _ x => x.mono (LE.trans le₄) fun _ _ y => y
    refine fun _ s₅ zz => zz.elim fun W₅ σ₅ le₅ R₅ h₆ => ?_
    exact ⟨W₅, σ₅, .next, (LE.trans le₄).trans le₅, R₅, .next, h₆⟩
  rcases hop with rfl | rfl
  · exact AutoIntOps.iadd_0 (go _ _)
  · exact AutoIntOps.isub_0 (go _ _)
def notTup : Expr → Bool
  | .Tuple .. => false
  | _ => true
theorem evAssignT (all : FxAll fx) (hq : fx.qt = true) {elts : List Expr} {k : Nat} {tp pos : Pos} {e : Expr} {Q : Fl → St → Prop} (nc : notComp e = true) (nt : notTup e = true)
    (h : EvE fx X e σ (fun v σ₁ => ∃ bs, tgtV (.Tuple elts k tp) v = some bs ∧ (∀ b ∈ bs, isVar fx b.1) ∧ Q .next ⟨setAll σ₁.loc bs, σ₁.hp⟩)) : EvS fx X (.Assign [.Tuple elts k tp] e pos) σ Q := by
  intro W s R
  refine Assign_Tuple (wpAny_mono (h W s R) ?_ fun _ _ x => x) (by rw [swapsWithSole]; exact swaps_false nc _ _ _) ?_
  · refine fun u₁ s₁ zz => zz.elim fun W₁ σ₁ v₁ le₁ R₁ r₁ h₁ => ?_
    obtain ⟨bs, e1, e2, e3⟩ := h₁
    refine wpAny_mono (asgT_of all hq e1 e2 (Q := Q .next) e3 W₁ s₁ u₁ R₁ r₁) ?_ fun _ _ x => x.mono le₁ fun _ _ y => y
    refine fun _ s₂ zz => zz.elim fun W₂ σ₂ le₂ R₂ h₂ => ?_
    exact ⟨W₂, σ₂, .next, le₁.trans le₂, R₂, .next, h₂⟩
  · cases e <;> first | rfl | cases nt
theorem bin_str1T {x : Str} {Q : V → St → Prop} (h : Q (.str x) σ) : BinT fx X .Mult (.str x) (.int 1) σ Q := by
  intro W s u₁ u₂ R r₁ r₂
  cases r₁; cases r₂
  exact P.mul_str (by decide) (fun _ q => by simp at q) (fun _ q => by simp at q) (by
    rw [if_neg (by decide), if_pos (by simp)]
    exact PV.here R (.str _ _) h)
theorem vrs_ints {W : Wd} : ∀ {xs : List Value} {ns : List Int}, IntsAre xs ns → VRs W (ns.map .int) xs := by
  intro xs ns h
  induction h with
  | nil => exact .nil
  | cons _ _ _ ih => exact .cons (.int _ _) ih
theorem evSliceScr (all : FxAll fx) {x : Str} {q pos sp p1 p2 : Pos} {a b : Int} {k1 k2 : Nat} {Q : V → St → Prop}
    (h : EvE fx X (.Name x q) σ (fun o σ₁ => o = .scr ∧ Q (.ref σ₁.hp.length) ⟨σ₁.loc, σ₁.hp ++ [.list (pickV (fx.ns.map .int) (some a) (some b))]⟩)) (hn : fx.ns.length ≤ sizeLine) : EvE fx X (.Subscript (.Name x q) (.Slice (some (.Constant (.int a) k1 p1)) (some (.Constant (.int b) k2 p2)) none sp) pos) σ Q := by
  intro W s R
  refine Subscript_ (wpAny_mono (h W s R) ?_ fun _ _ x => x)
  rintro u₁ s₁ ⟨W₁, σ₁, o, le₁, R₁, r₁, rfl, h₁⟩
  rw [arm_eval_Slice]
  refine wpAny_bind (wpAny_Constant_int (k := k1) (pos := p1) ?_)
  refine wpAny_bind (wpAny_holding (wpAny_Constant_int (k := k2) (pos := p2) ?_))
  refine wpAny_bind (wpAny_holding (wpAny_pure ?_))
  cases r₁
  obtain ⟨xs, k1, k2, k3⟩ := ScrAt all R₁
  have R₂ := R₁.toks (s₁.toks + 1 + 1)
  refine R₂.elim fun er g m news G F N C => ?_
  refine wpAny_newObj_type ?_ (by size_fits)
  refine slice_list F N k1 (.int _ _) (.int _ _) (fun h' F' N' => ?_) (hsz := by rw [List.size_toArray, k2.length]; exact hn)
  rw [kms_pick_eq] at N'
  obtain ⟨W', le', hD, R'⟩ := Rep.addN er G C (o := .list (pickV (fx.ns.map .int) (some a) (some b))) F' N' (fun p hp => Nat.ne_of_lt (Nat.lt_succ_of_lt (Heap.lt_size (N p hp).1))) fun W' le => .list 0 (by
    have k4 : VRs W' (fx.ns.map .int) xs := vrs_ints k2
    unfold pickV kms_pick
    rw [k4.length]
    exact (k4.drop _).take _)
  exact ⟨W', _, .ref _, le₁.trans le', R', .ref hD, h₁⟩
end
section
variable {c : Cx} {X : XP} {l : Lo} {hp : List O} {K : KV} {p q r p1 p2 : Pos} {pg : Pg} {sc : Scope} {ns : List Int} {lev : Nat} {qt : Bool}
@[irreducible] def Aug (c : Cx) (X : XP) (op : Operator) (e : Expr) (ov iv : V) (l : Lo) (hp : List O) (K : Lo → List O → Prop) : Prop :=
  ∃ i xs k a, ov = .ref i ∧ iv = .int k ∧ hp[i]? = some (.list xs) ∧ 0 ≤ k ∧ k < 2 ^ 63 ∧ xs[k.toNat]? = some (.int a) ∧ E c X e l hp (fun v l hp => ∃ b, v = .int b ∧ Set' c X ov iv (.int (augI op a b)) l hp K)
theorem s_aug {o e : Expr} {x : Str} {op : Operator} {K : KF} (hop : op = .Add ∨ op = .Sub) (h : E c X o l hp fun ov l hp => E c X (.Name x r) l hp fun iv l hp => Aug c X op e ov iv l hp fun l hp => K .next l hp) : S c X (.AugAssign (.Subscript o (.Name x r) q) op e p) l hp K := by
  unfold S
  unfold E Aug at h
  intro fx F _
  refine evAug hop ((h fx F).mono fun v σ h₁ => (h₁ fx F).mono fun ov σ' ⟨i, xs, k, a, e1, e2, e3, e4, e5, e6, e7⟩ => ⟨i, xs, k, a, e1, e2, e3, e4, e5, e6, ?_⟩)
  unfold E Set' at e7
  exact (e7 fx F).mono fun v σ ⟨b, f1, f2⟩ => ⟨b, f1, f2 fx F⟩
theorem aug_ints {i : Nat} {xs : List Int} {k : Int} {e : Expr} {op : Operator} {K : Lo → List O → Prop} (e1 : hp[i]? = some (.list (xs.map .int))) (s : Side (0 ≤ k ∧ k < xs.length ∧ xs.length < 2 ^ 62))
    (h : E c X e l hp fun v l' hp' => ∃ b, v = .int b ∧ hp' = hp ∧ K l' (hp.set i (.list ((xs.set k.toNat (augI op (g xs k) b)).map .int)))) : Aug c X op e (.ref i) (.int k) l hp K := by
  have s' := s.h
  unfold Aug
  refine ⟨i, _, k, _, rfl, rfl, e1, s'.1, by omega, g_get s'.1 s'.2.1, ?_⟩
  unfold E at *
  refine fun fx F => (h fx F).mono fun v σ ⟨b, f1, f2, f3⟩ => ⟨b, f1, ?_⟩
  refine st_ref (by rw [f2]; exact e1) ⟨s'.1, by rw [List.length_map]; exact s'.2.1, by omega⟩ ?_
  rw [List.map_set] at f3
  rw [f2]
  exact f3
theorem ss_aug {o e : Expr} {x : Str} {op : Operator} {rest : List Stmt} {K : KF} (h : S c X (.AugAssign (.Subscript o (.Name x r) q) op e p) l hp fun fl l hp => match fl with | .next => Ss c X rest l hp K | f => K f l hp) : Ss c X (.AugAssign (.Subscript o (.Name x r) q) op e p :: rest) l hp K := ss_cons h
theorem s_asg2 {x y : Str} {k : Nat} {e : Expr} {r' : Pos} {K : KF} (hc : CxIs c pg sc ns lev true) (nc : notComp e = true) (nt : notTup e = true) (tk : tgtOk (varOk sc) (.Tuple [.Name x q, .Name y r] k r') = true)
    (h : E c X e l hp fun v l hp => ∃ a b, v = .tup [a, b] ∧ K .next (setN (setN l x a) y b) hp) : S c X (.Assign [.Tuple [.Name x q, .Name y r] k r'] e p) l hp K := by
  obtain ⟨rfl⟩ := hc
  unfold S
  unfold E at h
  exact fun fx F hL => evAssignT F.all (F.qt rfl) nc nt ((h fx F).mono fun v σ ⟨a, b, f1, f2⟩ => ⟨[(x, a), (y, b)], by rw [f1]; exact tgt2, fun z hz => isVar_of F hL (tgt_ok tk (v := .tup [a, b]) tgt2 z hz), f2⟩)
theorem bin_str1 {x : Str} (h : K (.str x) l hp) : Bin c X .Mult (.str x) (.int 1) l hp K := by unfold Bin; exact fun _ _ => bin_str1T h
theorem pick_map {α : Type} (f : α → V) (xs : List α) (a b : Option Int) : ∃ ys : List α, ys.length ≤ xs.length ∧ pickV (xs.map f) a b = ys.map f := by
  refine ⟨(xs.drop (kms_lo a xs.length)).take (kms_hi b xs.length - kms_lo a xs.length), by rw [List.length_take, List.length_drop]; omega, ?_⟩
  unfold pickV
  rw [List.length_map, List.map_take, List.map_drop]
theorem e_sliceScr {x : Str} {a b : Int} {k1 k2 : Nat} (hc : CxIs c pg sc ns lev qt) (e : l x = some .scr) (hn : Side (ns.length ≤ 63)) (h : ∀ ks : List Int, ks.length ≤ 63 → K (.ref hp.length) l (hp ++ [.list (ks.map .int)])) : E c X (.Subscript (.Name x q) (.Slice (some (.Constant (.int a) k1 p1)) (some (.Constant (.int b) k2 p2)) none r) p) l hp K := by
  obtain ⟨rfl⟩ := hc
  have hx := e_name (c := ⟨pg, sc, ns, lev, qt⟩) (X := X) (p := q) (K := fun o l₁ hp₁ => o = .scr ∧ l₁ = l ∧ hp₁ = hp) e ⟨rfl, rfl, rfl⟩
  unfold E at *
  obtain ⟨ks, k1, k2⟩ := pick_map V.int ns (some a) (some b)
  intro fx F
  refine evSliceScr F.all ((hx fx F).mono fun o σ ⟨f1, f2, f3⟩ => ⟨f1, ?_⟩) (by rw [F.ns, sizeLine_eq]; have := hn.h; show ns.length ≤ _; omega)
  obtain ⟨σl, σh⟩ := σ
  dsimp only at f2 f3
  subst f2; subst f3
  rw [F.ns, show (⟨pg, sc, ns, lev, qt⟩ : Cx).ns = ns from rfl, k2]
  exact h ks (by have := hn.h; omega)
theorem isi_ss {a : Str} (h : K (.bool true) l hp) : CB c X "isinstance" [.str a, .glob (.type "str")] l hp K := by unfold CB; exact fun _ _ => isi_of (fun W s u Q E R r q => by cases r; exact IsiPair.str_str (q _)) h
theorem isi_st {a : Str} (h : K (.bool false) l hp) : CB c X "isinstance" [.str a, .glob (.type "tuple")] l hp K := by unfold CB; exact fun _ _ => isi_of (fun W s u Q E R r q => by cases r; exact IsiPair.str_tuple (q _)) h
theorem isi_nt (h : K (.bool false) l hp) : CB c X "isinstance" [.none, .glob (.type "tuple")] l hp K := by unfold CB; exact fun _ _ => isi_of (fun W s u Q E R r q => by cases r; exact IsiPair.NoneType_tuple (q _)) h
theorem isi_ts {a : List V} (h : K (.bool false) l hp) : CB c X "isinstance" [.tup a, .glob (.type "str")] l hp K := by unfold CB; exact fun _ _ => isi_of (fun W s u Q E R r q => by obtain ⟨_, _, rfl, h2, _⟩ := R.tup_at r; exact isi_tup h2 rfl (by simp) q) h
/-- a comprehension that picks pairs -/
theorem comp_filtP (hc : CxIs c pg sc ns lev qt) {elt t q : Expr} {csc : Scope} {xs : List (Int × Int)} {need : St → Prop} {K : List O → Prop} (ck : compCk sc csc t = true) (P : Int × Int → Bool) (hl : (xs.map pV).length ≤ sizeLine) (hneed : ∀ vs : List V, need ⟨l, hp ++ [.list vs]⟩)
    (turn : ∀ y ∈ xs, ∀ vs : List V, ∃ bs, tgtV t (pV y) = some bs ∧ ∀ c', CxIs c' pg (relab csc) ns lev qt → B c' X0 q (setAll (compLoc csc l) bs) (hp ++ [.list vs]) (fun b l' hp' => b = P y ∧ hp' = hp ++ [.list vs] ∧ E c' X0 elt l' (hp ++ [.list vs]) (fun v _ hp₂ => v = pV y ∧ hp₂ = hp ++ [.list vs])))
    (fin : K (hp ++ [.list ((xs.filter P).map pV)])) : Comp c elt t [q] csc (xs.map pV) need l hp K := by
  obtain ⟨rfl⟩ := hc
  unfold compCk at ck
  simp only [Bool.and_eq_true] at ck
  unfold Comp
  refine ⟨fun k hp' => hp' = hp ++ [.list (((xs.take k).filter P).map pV)], fun fx F => ⟨rfl, fun k hp' e => e ▸ hneed _, hl, ?_⟩, fun hp' e => by rw [e, List.length_map, List.take_length]; exact fin⟩
  rintro k hp' hk rfl
  have hk' : k < xs.length := by simpa using hk
  rw [List.getElem_map]
  have tk := List.take_add_one (l := xs) (i := k)
  rw [List.getElem?_eq_getElem hk'] at tk
  obtain ⟨bs, e, x⟩ := turn xs[k] (List.getElem_mem hk') (((xs.take k).filter P).map pV)
  have co := compOk_of F.sc ck.1.1
  refine ⟨bs, e, fun b hb => by simpa using tgt_ok ck.2 e b hb, fun fc allc e1 e2 e3 e5 e4 => evTs_one ?_⟩
  have x := x _ ⟨rfl⟩
  have Fc : FxAt ⟨pg, relab csc, ns, lev, qt⟩ fc := ⟨allc, e1.trans F.pg, e4.trans (relabel_eq co F.all.ok.kind), e2.trans F.ns, by rw [e3]; exact F.lev, fun z => e5.trans (F.qt z), nms_relab ck.1.2⟩
  unfold B E at x
  refine (x fc Fc).mono fun b σ y => ?_
  obtain ⟨σl, σh⟩ := σ
  obtain ⟨eb, eh, y⟩ := y
  have fe : (xs.take (k + 1)).filter P = (xs.take k).filter P ++ (if P xs[k] = true then [xs[k]] else []) := by
    rw [tk, Option.toList_some, List.filter_append]
    simp only [List.filter_cons, List.filter_nil]
  cases b with
  | false =>
    rw [← eb, if_neg (by decide), List.append_nil] at fe
    dsimp only at eh ⊢
    rw [fe, eh]
    rfl
  | true =>
    rw [← eb, if_pos rfl] at fe
    dsimp only at eh ⊢
    rw [if_pos rfl]
    subst eh
    refine (y fc Fc).mono fun v σ₂ ⟨ev, e2⟩ => ?_
    subst ev
    refine ⟨((xs.take k).filter P).map pV, by rw [e2]; simp, ?_, ?_⟩
    · rw [List.length_map]
      exact Nat.le_trans (List.length_filter_le _ _) (by rw [List.length_take]; omega)
    · rw [e2, fe]
      simp
end
end Mine

set_option autoImplicit false
namespace Mine
open PySem PySem.W PySem.Calls PySem.Spec PyProof.Rows

/-! a heap that changes at some places alone -/
structure Chg (M : List Nat) (hp hp' : List O) : Prop where
  len : hp.length ≤ hp'.length
  keep : ∀ (q : Nat) (o : O), q ∉ M → hp[q]? = some o → hp'[q]? = some o
theorem Chg.refl {M : List Nat} {hp : List O} : Chg M hp hp := ⟨Nat.le_refl _, fun _ _ _ h => h⟩
theorem Chg.trans {M : List Nat} {a b c : List O} (h : Chg M a b) (h' : Chg M b c) : Chg M a c := ⟨Nat.le_trans h.len h'.len, fun q o n e => h'.keep q o n (h.keep q o n e)⟩
theorem Chg.mono {M M' : List Nat} {a b : List O} (h : Chg M a b) (hs : ∀ x ∈ M, x ∈ M') : Chg M' a b := ⟨h.len, fun q o n e => h.keep q o (fun z => n (hs q z)) e⟩
theorem Chg.app {M : List Nat} {a b t : List O} (h : Chg M a b) : Chg M a (b ++ t) := ⟨by have := h.len; rw [List.length_append]; omega, fun q o n e => app_get (h.keep q o n e)⟩
theorem Chg.set {M : List Nat} {a b : List O} {i : Nat} {o : O} (h : Chg M a b) (hi : i ∈ M ∨ a.length ≤ i) : Chg M a (b.set i o) := ⟨by rw [List.length_set]; exact h.len, fun q o' n e => by
  refine set_get (h.keep q o' n e) fun z => ?_
  rcases hi with hi | hi
  · exact n (z ▸ hi)
  · have := get_lt e; omega⟩
theorem keep_len {a b : List O} (h : Keep a b) : a.length ≤ b.length := by
  rcases Nat.eq_zero_or_pos a.length with z | z
  · omega
  · have e : a[a.length - 1]? = some a[a.length - 1] := List.getElem?_eq_getElem (by omega)
    have := get_lt (h _ _ e)
    omega
theorem Keep.chg {M : List Nat} {a b : List O} (h : Keep a b) : Chg M a b := ⟨keep_len h, fun q o _ e => h q o e⟩
theorem Chg.add {M N : List Nat} {a b c : List O} (h : Chg M a b) (h' : Chg N b c) (hN : ∀ x ∈ N, x ∈ M ∨ a.length ≤ x) : Chg M a c := ⟨Nat.le_trans h.len h'.len, fun q o n e => h'.keep q o (fun z => by
  rcases hN q z with y | y
  · exact n y
  · have := get_lt e; omega) (h.keep q o n e)⟩
theorem nin1 {a z : Nat} (h : z ≠ a) : z ∉ [a] := fun m => h (List.mem_singleton.mp m)
theorem nin2 {a b z : Nat} (h1 : z ≠ a) (h2 : z ≠ b) : z ∉ [a, b] := fun m => by
  cases m with
  | head => exact h1 rfl
  | tail _ m => exact nin1 h2 m
theorem memN {P : Nat → Prop} : ∀ x ∈ ([] : List Nat), P x := fun _ h => by cases h
theorem memC {P : Nat → Prop} {a : Nat} {L : List Nat} (h : P a) (r : ∀ x ∈ L, P x) : ∀ x ∈ a :: L, P x := fun x m => by
  cases m with
  | head => exact h
  | tail _ m => exact r x m
/-- places told by how far they lie from a first one -/
def atN (N : Nat) (L : List Nat) : List Nat := L.map (N + ·)
theorem memA {N x : Nat} {L : List Nat} (h : x ∈ atN N L) : ∃ a ∈ L, x = N + a := by
  obtain ⟨a, h1, h2⟩ := List.mem_map.mp h
  exact ⟨a, h1, h2.symm⟩
theorem ninN {N a : Nat} {L : List Nat} (h : L.contains a = false) : N + a ∉ atN N L := fun m => by
  obtain ⟨b, h1, h2⟩ := memA m
  have : a = b := by omega
  subst this
  have := List.contains_iff_mem.mpr h1
  rw [h] at this
  cases this
theorem subN {N : Nat} {L L' : List Nat} (h : (L.all fun a => L'.contains a) = true) : ∀ x ∈ atN N L, x ∈ atN N L' := fun x m => by
  obtain ⟨a, h1, rfl⟩ := memA m
  exact List.mem_map.mpr ⟨a, List.contains_iff_mem.mp (List.all_eq_true.mp h a h1), rfl⟩
theorem subN' {N : Nat} {P : Nat → Prop} {L L' : List Nat} (h : (L.all fun a => L'.contains a) = true) : ∀ x ∈ atN N L, x ∈ atN N L' ∨ P x := fun x m => .inl (subN h x m)
theorem ninB {N b : Nat} {L : List Nat} (h : b < N) : b ∉ atN N L := fun m => by
  obtain ⟨a, _, e⟩ := memA m
  omega
theorem ninA {N z k : Nat} {L : List Nat} (h : (L.all fun a => decide (a < k)) = true) (hz : N + k ≤ z) : z ∉ atN N L := fun m => by
  obtain ⟨a, h1, e⟩ := memA m
  have := of_decide_eq_true (List.all_eq_true.mp h a h1)
  omega
theorem ltN {N k n : Nat} {L : List Nat} (h : (L.all fun a => decide (a < k)) = true) (hn : N + k ≤ n) : ∀ x ∈ atN N L, x < n := fun x m => by
  obtain ⟨a, h1, e⟩ := memA m
  have := of_decide_eq_true (List.all_eq_true.mp h a h1)
  omega
theorem nodN {N : Nat} {L : List Nat} (h : decide L.Nodup = true) : (atN N L).Nodup := by
  unfold atN List.Nodup
  rw [List.pairwise_map]
  exact List.Pairwise.imp (fun h e => h (by omega)) (show L.Pairwise (· ≠ ·) from of_decide_eq_true h)
/-! a land -/
structure LandIs (hp : List O) (C : Addr) (i j h t : Nat) (xs : List Int) (ds : List (Int × Int)) : Prop where
  a : hp[i]? = some (.inst C j)
  b : hp[j]? = some (.att [("heights", .ref h), ("lifts", .ref t)])
  c : hp[h]? = some (.list (xs.map .int))
  d : hp[t]? = some (.list (ds.map pV))
  ne : h ≠ t
section
variable {hp hp' : List O} {C : Addr} {i j h t : Nat} {xs : List Int} {ds : List (Int × Int)}
theorem LandIs.ih (L : LandIs hp C i j h t xs ds) {k : Nat} {vs : List V} (e : hp[k]? = some (.list vs)) : i ≠ k ∧ j ≠ k := by
  constructor
  · rintro rfl
    have := L.a.symm.trans e
    cases this
  · rintro rfl
    have := L.b.symm.trans e
    cases this
theorem LandIs.chg (L : LandIs hp C i j h t xs ds) {M : List Nat} (k : Chg M hp hp') (hM : ∀ x ∈ M, ∃ vs, hp[x]? = some (.list vs)) (h1 : h ∉ M) (h2 : t ∉ M) : LandIs hp' C i j h t xs ds :=
  ⟨k.keep _ _ (fun z => by obtain ⟨vs, e⟩ := hM _ z; exact (L.ih e).1 rfl) L.a, k.keep _ _ (fun z => by obtain ⟨vs, e⟩ := hM _ z; exact (L.ih e).2 rfl) L.b, k.keep _ _ h1 L.c, k.keep _ _ h2 L.d, L.ne⟩
theorem LandIs.keep (L : LandIs hp C i j h t xs ds) (k : Keep hp hp') : LandIs hp' C i j h t xs ds := ⟨k _ _ L.a, k _ _ L.b, k _ _ L.c, k _ _ L.d, L.ne⟩
theorem LandIs.of (L : LandIs hp C i j h t xs ds) {M : List Nat} (k : Chg M hp hp') (hM : ∀ x ∈ M, ∃ vs, hp[x]? = some (.list vs)) {ys : List Int} {es : List (Int × Int)} (e1 : hp'[h]? = some (.list (ys.map .int))) (e2 : hp'[t]? = some (.list (es.map pV))) : LandIs hp' C i j h t ys es :=
  ⟨k.keep _ _ (fun z => by obtain ⟨vs, e⟩ := hM _ z; exact (L.ih e).1 rfl) L.a, k.keep _ _ (fun z => by obtain ⟨vs, e⟩ := hM _ z; exact (L.ih e).2 rfl) L.b, e1, e2, L.ne⟩
/-- the land after its two lists have changed -/
theorem LandIs.upd (L : LandIs hp C i j h t xs ds) (k : Chg [h, t] hp hp') {ys : List Int} {es : List (Int × Int)} (e1 : hp'[h]? = some (.list (ys.map .int))) (e2 : hp'[t]? = some (.list (es.map pV))) : LandIs hp' C i j h t ys es :=
  ⟨k.keep _ _ (by have := L.ih L.c; have := L.ih L.d; simp; omega) L.a, k.keep _ _ (by have := L.ih L.c; have := L.ih L.d; simp; omega) L.b, e1, e2, L.ne⟩
end

/-! what the lifts do -/
def lift (xs : List Int) (a b : Int) : List Int := xs.set a.toNat (g xs a + b)
def sgl (xs : List Int) : List (Int × Int) := sg (g xs) xs.length
def lack (ps qs : List (Int × Int)) : List (Int × Int) := ps.filter fun p => !decide (p ∈ qs)
theorem lift_length (xs : List Int) (a b : Int) : (lift xs a b).length = xs.length := by unfold lift; rw [List.length_set]
theorem g_lift {xs : List Int} {a b k : Int} (h0 : 0 ≤ a) (h1 : a < xs.length) (k0 : 0 ≤ k) : g (lift xs a b) k = if k = a then g xs a + b else g xs k := by
  unfold g lift
  rw [List.getD_eq_getElem?_getD, List.getElem?_set]
  by_cases q : k = a
  · subst q
    rw [if_pos rfl, if_pos rfl, if_pos (by omega)]
    rfl
  · rw [if_neg (by omega), if_neg q, List.getD_eq_getElem?_getD]
theorem lift_back {xs : List Int} {a b : Int} (h0 : 0 ≤ a) (h1 : a < xs.length) : lift (lift xs a b) a (-b) = xs := by
  show (lift xs a b).set a.toNat (g (lift xs a b) a + -b) = xs
  rw [g_lift h0 h1 h0, if_pos rfl]
  unfold lift
  rw [List.set_set, show g xs a + b + -b = g xs a by omega]
  unfold g
  have hk : a.toNat < xs.length := by omega
  rw [List.getD_eq_getElem?_getD, List.getElem?_eq_getElem hk, Option.getD_some, List.set_getElem_self]
theorem lift_eq {xs ys : List Int} {a b : Int} (hl : ys.length = xs.length) (h0 : 0 ≤ a) (h1 : a < xs.length) (hy : ∀ (k : Nat) (hk : k < ys.length), ys[k] = g xs k + b * (if (k : Int) = a then 1 else 0)) : ys = lift xs a b := by
  refine List.ext_getElem (by rw [lift_length, hl]) fun k h1' h2 => ?_
  rw [hy k h1', g_nat h2, g_lift h0 h1 (by omega)]
  split
  · rename_i e; rw [e]; omega
  · omega
/-- heights within the bound -/
def Bd (xs : List Int) : Prop := ∀ k : Int, 0 ≤ k → k < xs.length → -1000000000000000000 ≤ g xs k ∧ g xs k ≤ 1000000000000000000
theorem Bd.lift {xs : List Int} {a b : Int} (h : Bd xs) (h0 : 0 ≤ a) (h1 : a < xs.length) (hb : -1000000000000000000 ≤ g xs a + b ∧ g xs a + b ≤ 1000000000000000000) : Bd (lift xs a b) := by
  intro k k0 k1
  rw [lift_length] at k1
  rw [g_lift h0 h1 k0]
  split
  · exact hb
  · exact h k k0 k1
/-- lifts that were done, from first to last -/
inductive Rel (b0 : List Int) : List Int → List (Int × Int) → Prop
  | nil : Rel b0 b0 []
  | snoc {xs : List Int} {ds : List (Int × Int)} {a b : Int} : Rel b0 xs ds → 0 ≤ a → a < xs.length → -1000000000000000000 ≤ g xs a + b ∧ g xs a + b ≤ 1000000000000000000 → Rel b0 (lift xs a b) (ds ++ [(a, b)])
theorem Rel.length {b0 xs : List Int} {ds : List (Int × Int)} (r : Rel b0 xs ds) : xs.length = b0.length := by
  induction r with
  | nil => rfl
  | snoc _ _ _ _ ih => rw [lift_length, ih]
theorem Rel.bd {b0 xs : List Int} {ds : List (Int × Int)} (r : Rel b0 xs ds) (h : Bd b0) : Bd xs := by
  induction r with
  | nil => exact h
  | snoc _ h0 h1 hb ih => exact ih.lift h0 h1 hb
theorem Rel.mem {b0 xs : List Int} {ds : List (Int × Int)} (r : Rel b0 xs ds) : ∀ p ∈ ds, 0 ≤ p.1 ∧ p.1 < xs.length := by
  induction r with
  | nil => exact fun _ h => by cases h
  | snoc r h0 h1 hb ih =>
    intro p hp
    rw [lift_length]
    rcases List.mem_append.mp hp with q | q
    · exact ih p q
    · rw [List.mem_singleton.mp q]
      exact ⟨h0, h1⟩
theorem Rel.pop {b0 xs : List Int} {ds : List (Int × Int)} {a b : Int} (r : Rel b0 xs (ds ++ [(a, b)])) (hb : Bd b0) : (0 ≤ a ∧ a < xs.length) ∧ Rel b0 (lift xs a (-b)) ds ∧ -1000000000000000000 ≤ g xs a + -b ∧ g xs a + -b ≤ 1000000000000000000 := by
  generalize e : ds ++ [(a, b)] = es at r
  cases r with
  | nil => simp at e
  | @snoc ys ds' a' b' r h0 h1 h2 =>
    obtain ⟨e1, e2⟩ := List.append_inj' e rfl
    cases e1
    injection e2 with e2 _
    injection e2 with e2 e3
    subst e2; subst e3
    rw [lift_length, lift_back h0 h1, g_lift h0 h1 h0, if_pos rfl]
    have := r.bd hb a h0 h1
    exact ⟨⟨h0, h1⟩, r, by omega, by omega⟩
theorem Rel.done {b0 xs : List Int} (r : Rel b0 xs []) : xs = b0 := by
  generalize e : ([] : List (Int × Int)) = es at r
  cases r with
  | nil => rfl
  | snoc _ _ _ _ => simp at e
theorem snoc_cases {α : Type} (ds : List α) : ds = [] ∨ ∃ es x, ds = es ++ [x] := by
  rcases List.eq_nil_or_concat ds with h | ⟨es, x, h⟩
  · exact .inl h
  · exact .inr ⟨es, x, by rw [h]; try rw [List.concat_eq_append]⟩

inductive Due where
  | nohill
  | high
  | ok (a b : Int)
def dueOf (xs : List Int) (vp vb : V) : Due := match vp with
  | .int a => if 0 ≤ a ∧ a < xs.length then (match vb with
    | .int b => if -1000000000000000000 ≤ g xs a + b ∧ g xs a + b ≤ 1000000000000000000 then .ok a b else .high
    | _ => .high) else .nohill
  | _ => .nohill
theorem due_no {xs : List Int} {vp vb : V} (h : ∀ a, vp = .int a → 0 ≤ a → a < xs.length → False) : dueOf xs vp vb = .nohill := by
  unfold dueOf
  split
  · rename_i a
    rw [if_neg fun z => h a rfl z.1 z.2]
  · rfl
theorem due_high {xs : List Int} {a : Int} {vb : V} (h0 : 0 ≤ a) (h1 : a < xs.length) (h : ∀ b, vb = .int b → -1000000000000000000 ≤ g xs a + b → g xs a + b ≤ 1000000000000000000 → False) : dueOf xs (.int a) vb = .high := by
  unfold dueOf
  dsimp only
  rw [if_pos ⟨h0, h1⟩]
  split
  · rename_i b
    rw [if_neg fun z => h b rfl z.1 z.2]
  · rfl
theorem due_ok {xs : List Int} {a b : Int} (h0 : 0 ≤ a) (h1 : a < xs.length) (h2 : -1000000000000000000 ≤ g xs a + b) (h3 : g xs a + b ≤ 1000000000000000000) : dueOf xs (.int a) (.int b) = .ok a b := by
  unfold dueOf
  dsimp only
  rw [if_pos ⟨h0, h1⟩, if_pos ⟨h2, h3⟩]
theorem due_of_ok {xs : List Int} {vp vb : V} {a b : Int} (h : dueOf xs vp vb = .ok a b) : vp = .int a ∧ vb = .int b ∧ 0 ≤ a ∧ a < xs.length ∧ -1000000000000000000 ≤ g xs a + b ∧ g xs a + b ≤ 1000000000000000000 := by
  unfold dueOf at h
  split at h
  · split at h
    · rename_i z
      split at h
      · split at h
        · rename_i z'; cases h; exact ⟨rfl, rfl, z.1, z.2, z'⟩
        · cases h
      · cases h
    · cases h
  · cases h

/-! what was told -/
def ToldOk (M : List Nat) (hp : List O) (vs : List V) : Prop := ∀ v ∈ vs, ∃ (a b c d : Nat) (ps qs : List (Int × Int)), v = .tup [.tup [.ref a, .ref b], .ref c, .ref d] ∧
  (hp[a]? = some (.list (ps.map pV)) ∧ a ∉ M) ∧ (hp[b]? = some (.list (qs.map pV)) ∧ b ∉ M) ∧ (hp[c]? = some (.list (ps.map pV)) ∧ c ∉ M) ∧ (hp[d]? = some (.list (qs.map pV)) ∧ d ∉ M)
theorem ToldOk.chg {M M' : List Nat} {hp hp' : List O} {vs : List V} (h : ToldOk M hp vs) (k : Chg M' hp hp') (hs : ∀ x ∈ M', x ∈ M) : ToldOk M hp' vs := by
  intro v hv
  obtain ⟨a, b, c, d, ps, qs, e, h1, h2, h3, h4⟩ := h v hv
  have go : ∀ {x : Nat} {o : O}, hp[x]? = some o ∧ x ∉ M → hp'[x]? = some o ∧ x ∉ M := fun z => ⟨k.keep _ _ (fun y => z.2 (hs _ y)) z.1, z.2⟩
  exact ⟨a, b, c, d, ps, qs, e, go h1, go h2, go h3, go h4⟩
theorem ToldOk.nil {M : List Nat} {hp : List O} : ToldOk M hp [] := fun _ h => by cases h

/-- a land, and what the law holds of it -/
structure Wk (hp : List O) (C : Addr) (i j h t H D : Nat) (b0 xs : List Int) (ds : List (Int × Int)) : Prop where
  L : LandIs hp C i j h t xs ds
  H : hp[H]? = some (.list (xs.map .int))
  D : hp[D]? = some (.list (ds.map pV))
  rel : Rel b0 xs ds
theorem Wk.keep {hp hp' : List O} {C : Addr} {i j h t H D : Nat} {b0 xs : List Int} {ds : List (Int × Int)} (w : Wk hp C i j h t H D b0 xs ds) (k : Keep hp hp') : Wk hp' C i j h t H D b0 xs ds := ⟨w.L.keep k, k _ _ w.H, k _ _ w.D, w.rel⟩

theorem pick_last (ps : List (Int × Int)) (p : Int × Int) : pickV ((ps ++ [p]).map pV) none (some (-1)) = ps.map pV := by
  unfold pickV
  have h1 : kms_lo none ((ps ++ [p]).map pV).length = 0 := rfl
  have h2 : kms_hi (some (-1)) ((ps ++ [p]).map pV).length = ps.length := by
    show (if (-1 : Int) < 0 then ((ps ++ [p]).map pV).length - (-(-1 : Int)).toNat else min (-1 : Int).toNat ((ps ++ [p]).map pV).length) = _
    rw [if_pos (by decide), List.length_map, List.length_append, List.length_singleton]
    show ps.length + 1 - 1 = ps.length
    omega
  rw [h1, h2, List.drop_zero, Nat.sub_zero, List.map_append, List.take_append_of_le_length (by simp), List.take_of_length_le (by simp)]
theorem mem_insKs (ps : List (Int × Int)) (p : Int × Int) : [p.1, p.2] ∈ ps.foldl (fun T q => insK [q.1, q.2] T) [] ↔ p ∈ ps := by
  have key : ∀ (ps : List (Int × Int)) (T : List (List Int)), [p.1, p.2] ∈ ps.foldl (fun T q => insK [q.1, q.2] T) T ↔ [p.1, p.2] ∈ T ∨ p ∈ ps := by
    intro ps
    induction ps with
    | nil => intro T; simp
    | cons q ps ih =>
      intro T
      rw [List.foldl_cons, ih, mem_insK, List.mem_cons]
      have : [p.1, p.2] = [q.1, q.2] ↔ p = q := by
        constructor
        · intro z
          injection z with z1 z2
          injection z2 with z2 _
          exact Prod.ext z1 z2
        · rintro rfl; rfl
      rw [this]
      constructor
      · rintro ((h | h) | h)
        · exact .inr (.inl h)
        · exact .inl h
        · exact .inr (.inr h)
      · rintro (h | h | h)
        · exact .inl (.inr h)
        · exact .inl (.inl h)
        · exact .inr h
  rw [key]
  simp
def tabOf (ps : List (Int × Int)) : List (List Int) := ps.foldl (fun T q => insK [q.1, q.2] T) []
theorem insK_len (k : List Int) (T : List (List Int)) : (insK k T).length ≤ T.length + 1 := by
  unfold insK
  split
  · omega
  · simp
theorem tabOf_take (ps : List (Int × Int)) (m : Nat) (h : m < ps.length) : tabOf (ps.take (m + 1)) = insK [ps[m].1, ps[m].2] (tabOf (ps.take m)) := by
  unfold tabOf
  rw [List.take_add_one, List.getElem?_eq_getElem h, Option.toList_some, List.foldl_append]
  rfl
theorem tabOf_len : ∀ (ps : List (Int × Int)) (T : List (List Int)), (ps.foldl (fun T q => insK [q.1, q.2] T) T).length ≤ T.length + ps.length
  | [], T => by simp
  | q :: ps, T => by
    rw [List.foldl_cons, List.length_cons]
    have := tabOf_len ps (insK [q.1, q.2] T)
    have := insK_len [q.1, q.2] T
    omega
theorem setN_set_comm {l : Lo} {x y : Str} {v : V} (h : y ≠ x) : setN l x v y = l y := by
  unfold setN
  rw [if_neg h]
/-- a dict is filled with the pairs of a list -/
theorem s_fill {c : Cx} {X : XP} {l : Lo} {hp : List O} {p q r p1 p2 p3 p4 p5 : Pos} {k : Nat} {pg : Pg} {sc : Scope} {ns : List Int} {lev : Nat} {x y t : Str} {i T : Nat} {ps : List (Int × Int)} {K : KF} (hc : CxIs c pg sc ns lev true) (tk : tgtOk (varOk sc) (.Name x q) = true)
    (hy : l y = some (.ref i)) (ht : l t = some (.ref T)) (hi : hp[i]? = some (.list (ps.map pV))) (hT : hp[T]? = some (.tab [])) (hn : Side (ps.length ≤ sizeLine)) (n1 : (t == x) = false)
    (h : ∀ l', (∀ z, (z == x) = false → l' z = l z) → K .next l' (hp.set T (.tab (tabOf ps)))) : S c X (.For (.Name x q) (.Name y r) [.Assign [.Subscript (.Name t p1) (.Name x p2) p3] (.Constant (.bool true) k p4) p5] [] p) l hp K := by
  have ne : T ≠ i := by
    rintro rfl
    rw [hi] at hT
    cases hT
  refine s_for1 hc tk rfl (i_val (e_name hy (srv_ref hc hi ?_)))
  refine ⟨fun m l' hp' => hp' = hp.set T (.tab (tabOf (ps.take m))) ∧ ∀ z, (z == x) = false → l' z = l z, ⟨?_, fun _ _ => rfl⟩, fun m l' hp' e => by rw [e.1]; exact set_get hi ne, ?_, ?_⟩
  · show hp = hp.set T (.tab [])
    have hlt := get_lt hT
    rw [List.getElem?_eq_getElem hlt] at hT
    have := Option.some.inj hT
    rw [← this, List.set_getElem_self]
  · rintro m hm l' hp' ⟨rfl, hl⟩
    rw [List.length_map] at hm
    rw [List.getElem_map]
    refine ss_asg (s_asgS rfl (e_bool (e_name (v := .ref T) ?_ (e_name (v := pV ps[m]) setN_same ?_))))
    · rw [setN_set_comm (by simpa using n1), hl _ n1]
      exact ht
    refine st_tab (set_at hT) ⟨?_⟩ ?_
    · have := tabOf_len (ps.take m) []
      rw [List.length_take] at this
      unfold tabOf
      have := hn.h
      simp at *
      omega
    refine ss_nil ?_
    rw [List.set_set, ← tabOf_take ps m hm]
    exact ⟨rfl, fun z hz => by rw [setN_set_comm (by simpa using hz), hl z hz]⟩
  · rintro l' hp' ⟨rfl, hl⟩
    rw [List.length_map, List.take_length]
    exact h l' hl
theorem lack_eq (ps qs : List (Int × Int)) : (ps.filter fun p => !decide ([p.1, p.2] ∈ tabOf qs)) = lack ps qs := by
  unfold lack
  refine List.filter_congr fun p _ => ?_
  congr 1
  exact decide_eq_decide.mpr (mem_insKs qs p)
/-- not None -/
def notN : V → Bool
  | .int _ | .str _ | .tup _ | .ref _ | .bool _ => true
  | _ => false
theorem is_vN {v : V} (h : notN v = true) (W : Wd) (u₁ u₂ : Value) (r : VR W v u₁) (r' : VR W .none u₂) : plainIs u₁ u₂ = true ∧ (u₁ == u₂) = false := by
  cases r' with
  | none => cases r <;> first | exact ⟨rfl, rfl⟩ | cases h
theorem cmp_is_vN {c : Cx} {X : XP} {l : Lo} {hp : List O} {K : KV} {v : V} (s : notN v = true) (h : K (.bool false) l hp) : Cmp c X .Is v .none l hp K := by unfold Cmp; exact fun _ _ => (is_plainT (is_vN s)).1 h
theorem cmp_isn_vN {c : Cx} {X : XP} {l : Lo} {hp : List O} {K : KV} {v : V} (s : notN v = true) (h : K (.bool true) l hp) : Cmp c X .IsNot v .none l hp K := by unfold Cmp; exact fun _ _ => (is_plainT (is_vN s)).2 h
theorem fn6 {α : Type} {P : List α → Prop} (h : ∀ a b c d e f, P [a, b, c, d, e, f]) : ∀ us : List α, us.length = 6 → P us
  | [a, b, c, d, e, f], _ => h a b c d e f
theorem shaped_two (xs : List Int) (ps : List (Int × Int)) : PySem.SeqAt.shaped (.list [.list (xs.map .int), .list (ps.map pD)]) = true := by
  have h1 := lay_ints xs
  have h2 := lay_pairs ps
  simp [PySem.SeqAt.shaped, PyData.canLay0, PyData.canLayAll0, PyData.depth, PyData.depthAll, h1.1, h2.1]
  omega
theorem cmp_two {c : Cx} {X : XP} {l : Lo} {hp : List O} {K : KV} {A B a1 a2 b1 b2 : Nat} {xs : List Int} {ps : List (Int × Int)} (hA : hp[A]? = some (.list [.ref a1, .ref a2])) (hB : hp[B]? = some (.list [.ref b1, .ref b2])) (h1 : hp[a1]? = some (.list (xs.map .int))) (h2 : hp[a2]? = some (.list (ps.map pV)))
    (h3 : hp[b1]? = some (.list (xs.map .int))) (h4 : hp[b2]? = some (.list (ps.map pV))) (h : K (.bool true) l hp) : Cmp c X .Eq (.ref A) (.ref B) l hp K :=
  cmp_deq (.list hA (.cons (.list h1 (dats_ints hp xs)) (.cons (.list h2 (dats_pairs hp ps)) .nil))) (.list hB (.cons (.list h3 (dats_ints hp xs)) (.cons (.list h4 (dats_pairs hp ps)) .nil))) (shaped_two xs ps) (shaped_two xs ps) (by
    have e1 : PyData.eqv (.list (xs.map .int)) (.list (xs.map .int)) = true := by rw [PyData.eqv, ked_eqvAll]; simp
    have e2 : PyData.eqv (.list (ps.map pD)) (.list (ps.map pD)) = true := by rw [PyData.eqv, eqvAll_pairs]; simp
    rw [PyData.eqv, PyData.eqvAll, PyData.eqvAll, e1, e2, PyData.eqvAll]
    exact h)
theorem lack_len (ps qs : List (Int × Int)) : (lack ps qs).length ≤ ps.length := List.length_filter_le _ _
/-! law 10: what its names and its heap hold -/
def nmL : List String := ["_law_land", "_law_other", "_law_heights", "_law_second", "_law_done_here", "_law_told_here", "_law_begun", "_law_handed", "_law_size"]
structure Nms (l : Lo) (N bb : Nat) (sz : Int) : Prop where
  land : l "_law_land" = some (.ref (N + 2))
  other : l "_law_other" = some (.ref (N + 6))
  heights : l "_law_heights" = some (.ref (N + 9))
  second : l "_law_second" = some (.ref (N + 10))
  done : l "_law_done_here" = some (.ref (N + 11))
  told : l "_law_told_here" = some (.ref (N + 12))
  begun : l "_law_begun" = some (.ref bb)
  handed : l "_law_handed" = some (.ref N)
  size : l "_law_size" = some (.int sz)
theorem Nms.put {l : Lo} {N bb : Nat} {sz : Int} {x : String} {v : V} (n : Nms l N bb sz) (h : nmL.contains x = false) : Nms (setN l (Str.ofString x) v) N bb sz := by
  have hx : ∀ y ∈ nmL, (y == x) = false := fun y hy => by
    rw [beq_eq_false_iff_ne]
    rintro rfl
    rw [List.contains_iff_mem.mpr hy] at h
    cases h
  exact ⟨(setN_ne (hx _ (.head _))).trans n.land, (setN_ne (hx _ (.tail _ (.head _)))).trans n.other, (setN_ne (hx _ (.tail _ (.tail _ (.head _))))).trans n.heights, (setN_ne (hx _ (.tail _ (.tail _ (.tail _ (.head _)))))).trans n.second, (setN_ne (hx _ (.tail _ (.tail _ (.tail _ (.tail _ (.head _))))))).trans n.done, (setN_ne (hx _ (.tail _ (.tail _ (.tail _ (.tail _ (.tail _ (.head _)))))))).trans n.told, (setN_ne (hx _ (.tail _ (.tail _ (.tail _ (.tail _ (.tail _ (.tail _ (.head _))))))))).trans n.begun, (setN_ne (hx _ (.tail _ (.tail _ (.tail _ (.tail _ (.tail _ (.tail _ (.tail _ (.head _)))))))))).trans n.handed, (setN_ne (hx _ (.tail _ (.tail _ (.tail _ (.tail _ (.tail _ (.tail _ (.tail _ (.tail _ (.head _))))))))))).trans n.size⟩
structure St10 (C : Addr) (N bb dk : Nat) (b0 ks : List Int) (hp : List O) (k : Nat) (xs : List Int) (ds : List (Int × Int)) (x2 : List Int) (d2 : List (Int × Int)) (vs : List V) : Prop where
  W : Wk hp C (N + 2) (N + 1) (N + 3) (N + 4) (N + 9) (N + 11) b0 xs ds
  L : LandIs hp C (N + 6) (N + 5) (N + 7) (N + 8) x2 d2
  S : hp[N + 10]? = some (.list (x2.map .int))
  T : hp[N + 12]? = some (.list vs)
  t : ToldOk (atN N [3, 4, 9, 11, 12, 7, 8, 10]) hp vs
  n1 : ds.length ≤ 90 + k
  n2 : d2.length ≤ k
  n3 : vs.length ≤ k
  n4 : x2.length = b0.length
  r : ∀ z : Int, 0 ≤ z → z < b0.length → -20000 ≤ g x2 z ∧ g x2 z ≤ 20000 + k
  b : hp[bb]? = some (.list (b0.map .int))
  h : hp[N]? = some (.list (b0.map .int))
  d : hp[dk]? = some (.list (ks.map .int))
  len : N + 13 ≤ hp.length
  lb : bb < N
  ld : dk < N
section
variable {C : Addr} {N bb dk : Nat} {b0 ks : List Int} {hp hp' : List O} {k : Nat} {xs xs' x2 x2' : List Int} {ds ds' d2 d2' : List (Int × Int)} {vs vs' : List V}
theorem St10.l5 (s : St10 C N bb dk b0 ks hp k xs ds x2 d2 vs) : ∀ x ∈ atN N [3, 4, 9, 11, 12], ∃ vs, hp[x]? = some (O.list vs) := memC ⟨_, s.W.L.c⟩ (memC ⟨_, s.W.L.d⟩ (memC ⟨_, s.W.H⟩ (memC ⟨_, s.W.D⟩ (memC ⟨_, s.T⟩ memN))))
theorem St10.l4 (s : St10 C N bb dk b0 ks hp k xs ds x2 d2 vs) : ∀ x ∈ atN N [3, 4, 9, 11], ∃ vs, hp[x]? = some (O.list vs) := memC ⟨_, s.W.L.c⟩ (memC ⟨_, s.W.L.d⟩ (memC ⟨_, s.W.H⟩ (memC ⟨_, s.W.D⟩ memN)))
theorem St10.lo (s : St10 C N bb dk b0 ks hp k xs ds x2 d2 vs) : ∀ x ∈ atN N [7, 8, 10, 12], ∃ vs, hp[x]? = some (O.list vs) := memC ⟨_, s.L.c⟩ (memC ⟨_, s.L.d⟩ (memC ⟨_, s.S⟩ (memC ⟨_, s.T⟩ memN)))
theorem St10.main (s : St10 C N bb dk b0 ks hp k xs ds x2 d2 vs) (c : Chg (atN N [3, 4, 9, 11, 12]) hp hp') (W' : Wk hp' C (N + 2) (N + 1) (N + 3) (N + 4) (N + 9) (N + 11) b0 xs' ds') (T' : hp'[N + 12]? = some (.list vs')) (t' : ToldOk (atN N [3, 4, 9, 11, 12, 7, 8, 10]) hp' vs') (r1 : ds'.length ≤ ds.length + 1) (r2 : vs'.length ≤ vs.length + 1) : St10 C N bb dk b0 ks hp' (k + 1) xs' ds' x2 d2 vs' :=
  ⟨W', s.L.chg c s.l5 (ninN rfl) (ninN rfl), c.keep _ _ (ninN rfl) s.S, T', t', by have := s.n1; omega, by have := s.n2; omega, by have := s.n3; omega, s.n4, fun z z0 z1 => by have := s.r z z0 z1; omega, c.keep _ _ (ninB s.lb) s.b, c.keep _ _ (ninN (a := 0) rfl) s.h, c.keep _ _ (ninB s.ld) s.d, Nat.le_trans s.len c.len, s.lb, s.ld⟩
theorem St10.two (s : St10 C N bb dk b0 ks hp k xs ds x2 d2 vs) (c : Chg (atN N [7, 8, 10, 12]) hp hp') (L' : LandIs hp' C (N + 6) (N + 5) (N + 7) (N + 8) x2' d2') (S' : hp'[N + 10]? = some (.list (x2'.map .int))) (T' : hp'[N + 12]? = some (.list vs')) (t' : ToldOk (atN N [3, 4, 9, 11, 12, 7, 8, 10]) hp' vs') (r1 : d2'.length ≤ d2.length + 1) (r2 : vs'.length ≤ vs.length + 1) (r3 : x2'.length = x2.length)
    (r4 : ∀ z : Int, 0 ≤ z → z < b0.length → -20000 ≤ g x2' z ∧ g x2' z ≤ 20000 + k + 1) : St10 C N bb dk b0 ks hp' (k + 1) xs ds x2' d2' vs' :=
  ⟨⟨s.W.L.chg c s.lo (ninN rfl) (ninN rfl), c.keep _ _ (ninN rfl) s.W.H, c.keep _ _ (ninN rfl) s.W.D, s.W.rel⟩, L', S', T', t', by have := s.n1; omega, by have := s.n2; omega, by have := s.n3; omega, r3.trans s.n4, fun z z0 z1 => by have := r4 z z0 z1; omega, c.keep _ _ (ninB s.lb) s.b, c.keep _ _ (ninN (a := 0) rfl) s.h, c.keep _ _ (ninB s.ld) s.d, Nat.le_trans s.len c.len, s.lb, s.ld⟩
theorem St10.start (W : Wk hp C (N + 2) (N + 1) (N + 3) (N + 4) (N + 9) (N + 11) b0 b0 []) (L : LandIs hp C (N + 6) (N + 5) (N + 7) (N + 8) b0 []) (S : hp[N + 10]? = some (.list (b0.map .int))) (T : hp[N + 12]? = some (.list [])) (r : ∀ z : Int, 0 ≤ z → z < b0.length → -20000 ≤ g b0 z ∧ g b0 z ≤ 20000)
    (b : hp[bb]? = some (.list (b0.map .int))) (h : hp[N]? = some (.list (b0.map .int))) (d : hp[dk]? = some (.list (ks.map .int))) (len : hp.length = N + 13) (lb : bb < N) (ld : dk < N) : St10 C N bb dk b0 ks hp 0 b0 [] b0 [] [] :=
  ⟨W, L, S, T, .nil, by simp, by simp, by simp, rfl, fun z z0 z1 => by have := r z z0 z1; omega, b, h, d, by omega, lb, ld⟩
theorem St10.lifted (s : St10 C N bb dk b0 ks hp 0 b0 [] b0 [] []) (c : Chg (atN N [3, 4, 9, 11]) hp hp') (W' : Wk hp' C (N + 2) (N + 1) (N + 3) (N + 4) (N + 9) (N + 11) b0 xs' ds') (r1 : ds'.length ≤ 90) : St10 C N bb dk b0 ks hp' 0 xs' ds' b0 [] [] :=
  ⟨W', s.L.chg c s.l4 (ninN rfl) (ninN rfl), c.keep _ _ (ninN rfl) s.S, c.keep _ _ (ninN rfl) s.T, .nil, by omega, by simp, by simp, rfl, s.r, c.keep _ _ (ninB s.lb) s.b, c.keep _ _ (ninN (a := 0) rfl) s.h, c.keep _ _ (ninB s.ld) s.d, Nat.le_trans s.len c.len, s.lb, s.ld⟩
end
end Mine

set_option autoImplicit false
namespace Mine
open PySem PySem.W PySem.Calls PySem.Spec PyProof.Rows

/-! a comprehension in which an exception may be raised -/
section
variable {M : Model} {A : Around} {E : Value → Shared → Prop} {s : Shared} {env : Env}
end

section
variable {fx : Fx} {X : XP} {σ : St} {W : Wd} {s : Shared}
end
end Mine

set_option autoImplicit false
namespace Mine
open PySem PySem.W PySem.Calls PySem.Spec PyProof.Rows
section
variable {fx : Fx} {X : XP} {σ : St} {W : Wd} {s : Shared}
end
section
variable {c : Cx} {X : XP} {l : Lo} {hp : List O} {p q r : Pos} {pg : Pg} {sc : Scope} {ns : List Int} {lev : Nat} {qt : Bool}
end
end Mine

set_option autoImplicit false
namespace Mine
open PySem PySem.W PySem.Calls PySem.Spec PyProof.Rows

/-! texts -/
section
variable {fx : Fx} {X : XP} {σ : St} {W : Wd} {s : Shared}
end
section
variable {c : Cx} {X : XP} {l : Lo} {hp : List O} {K : KV} {p q r : Pos} {pg : Pg} {sc : Scope} {ns : List Int} {lev : Nat} {qt : Bool}
end
end Mine

set_option autoImplicit false
namespace Mine
open PySem PySem.W PySem.Calls PySem.Spec PySem.NumText PyProof.Rows

/-! texts as lists of signs -/
open PySem.Builtin.Str in
/-! figures -/
/-! words and lines -/
end Mine

set_option autoImplicit false
namespace Mine
open PySem PySem.W PySem.Calls PySem.Spec PySem.NumText PyProof.Rows
section
variable {c : Cx} {X : XP} {l : Lo} {hp : List O} {K : KV} {pg : Pg} {sc : Scope} {ns : List Int} {lev : Nat} {qt : Bool}
end
end Mine

section
open PySem PySem.W PyProof.Rows
namespace Mine
set_option maxRecDepth 100000
set_option maxHeartbeats 8000000
def hpick {α : Type} (l : List α) : List Nat → List α
  | [] => []
  | i :: is => match l[i]? with | some x => x :: hpick l is | none => hpick l is
def q10 : Program := { PySem.Challenge.pw_uf050038_10 with main := { PySem.Challenge.pw_uf050038_10.main with body := hpick PySem.Challenge.pw_uf050038_10.main.body [1, 2, 3, 4, 5, 6, 8, 9, 11, 12, 13, 15, 17, 18, 19, 21, 22, 23, 24, 25, 26, 27, 28, 29, 30, 31, 32, 33, 34, 35, 36, 37] } }
def lay : Nat → Nat → Frag → List Obj → List Obj
  | 0, _, _, _ => []
  | _ + 1, _, [], _ => []
  | n + 1, a, (b, o) :: ks, ms => match Nat.beq a b with
    | true => o :: lay n (a + 1) ks ms
    | false => match ms with
      | m :: ms => m :: lay n (a + 1) ((b, o) :: ks) ms
      | [] => []
def onAt : List Obj → Nat → (Obj → Obj) → List Obj
  | [], _, _ => []
  | o :: l, 0, f => f o :: l
  | o :: l, n + 1, f => o :: onAt l n f
def tr3 (m ep : Nat) (v : Value) : Obj → Obj
  | ⟨c, d, .dict es _, s⟩ => ⟨c, d, .dict ⟨match es.toList.take m with | [] => [] | e :: l => { e with val := v } :: l⟩ ep, s⟩
  | o => o
def tr12 (m : Nat) : Obj → Obj
  | ⟨c, d, .fields vs, s⟩ => ⟨c, d, .fields ⟨vs.toList.take m⟩, s⟩
  | o => o
def look (F : Frag) (a : Nat) : Obj := (F.lookup a).getD default
noncomputable def bootO (P : Params) (a : Nat) : Obj := ((boot_heap P).objs.toList[a]?).getD default
def tm : Obj → Obj
  | ⟨_, _, .func f, _⟩ => { cls := .none, data := .func { name := f.name, qualname := f.qualname, params := f.params, body := f.body, scope := f.scope, globals := 0, closure := [], defaults := .none, kwdefaults := .none } }
  | o => o
noncomputable def cutH (F : Params → Frag) (M : Params → Frag → List Obj) (n : Nat) (P : Params) (ov : List (Nat × (Obj → Obj))) : Heap := ⟨⟨ov.foldl (fun l x => onAt l x.1 x.2) (lay n 0 (F P) (M P (F P)))⟩, {}⟩
noncomputable def mis10 (P : Params) (F : Frag) : List Obj := [
  (bootO P 0),
  (bootO P 1),
  (bootO P 4),
  (bootO P 5),
  (bootO P 6),
  (bootO P 7),
  (bootO P 8),
  (bootO P 9),
  (bootO P 10),
  { cls := Value.type "tuple", data := Data.seq #[] },
  { cls := Value.none, data := Data.fields #[Value.int 2 0, Value.int 0 0, Value.ref 20, Value.int 4 0, Value.int 0 0, Value.ref 33, Value.int 6 0, Value.int 0 0, Value.ref 45, Value.int 8 0, Value.int 0 0, Value.ref 57, Value.int 10 0, Value.int 0 0, Value.ref 69, Value.int 12 0, Value.int 0 0, Value.ref 81, Value.int 15 0, Value.int 0 0, Value.ref 93, Value.int 17 0, Value.int 0 0, Value.ref 100, Value.int 20 0, Value.int 0 0, Value.ref 107, Value.int 23 0, Value.int 0 0, Value.ref 114, Value.int 32 0, Value.int 0 0, Value.ref 121, Value.int 41 0, Value.int 0 0, Value.ref 128, Value.int 45 0, Value.int 0 0, Value.ref 135, Value.int 52 0, Value.int 0 0, Value.ref 142, Value.int 91 0, Value.int 0 0, Value.ref 196, Value.int 99 0, Value.int 0 0, Value.ref 203, Value.int 101 0, Value.int 0 0, Value.ref 210, Value.int 105 0, Value.int 0 0, Value.ref 217, Value.int 117 0, Value.int 0 0, Value.ref 224, Value.int 119 0, Value.int 0 0, Value.ref 231, Value.int 130 0, Value.int 0 0, Value.ref 238, Value.int 149 0, Value.int 0 0, Value.ref 243, Value.int 154 0, Value.int 0 0, Value.ref 248, Value.int 162 0, Value.int 0 0, Value.ref 255, Value.int 172 0, Value.int 0 0, Value.ref 260, Value.int 177 0, Value.int 0 0, Value.ref 267, Value.int 189 0, Value.int 0 0, Value.ref 274, Value.int 195 0, Value.int 0 0, Value.ref 281, Value.int 202 0, Value.int 0 0, Value.ref 288, Value.int 208 0, Value.int 0 0, Value.ref 295, Value.int 223 0, Value.int 0 0, Value.ref 300] },
  { cls := Value.type "code", data := Data.fields #[Value.str (Str.ofString "<module>") 182, Value.str (Str.ofString "<module>") 183, Value.str (Str.ofString "/claim/cut.py") 184, Value.int 1 0, Value.int 0 0, Value.int 0 0, Value.int 0 0, Value.int 0 0, Value.ref 11, Value.bool false, Value.int 181 0, Value.ref 12, Value.none, Value.none, Value.none, Value.none, Value.int 185 0, Value.int 1 0, Value.str (Str.ofString "/claim/cut.py") 186] },
  { cls := Value.type "frame", slots := #[some (Value.ref 13), some (Value.ref 3), some (Value.ref 3), none, some (Value.str (Str.ofString "__main__") 164), none, some (Value.ref 0)] },
  { cls := Value.type "builtin_function_or_method", data := Data.fields #[Value.builtin "type.__prepare__", Value.type "type"] },
  { cls := Value.type "dict", data := Data.dict #[{ hash := PyData.keyHash P (Str.ofString "__module__"), key := Value.str (Str.ofString "__module__") 196, val := Value.str (Str.ofString "hillsight.errors") 187 }, { hash := PyData.keyHash P (Str.ofString "__qualname__"), key := Value.str (Str.ofString "__qualname__") 198, val := Value.str (Str.ofString "HillError") 197 }, { hash := PyData.keyHash P (Str.ofString "__firstlineno__"), key := Value.str (Str.ofString "__firstlineno__") 200, val := Value.int 2 199 }, { hash := PyData.keyHash P (Str.ofString "__static_attributes__"), key := Value.str (Str.ofString "__static_attributes__") 201, val := Value.ref 22 }] 4 },
  { cls := Value.type "tuple", data := Data.seq #[] },
  { cls := Value.none, data := Data.fields #[] },
  { cls := Value.type "code", data := Data.fields #[Value.str (Str.ofString "HillError") 191, Value.str (Str.ofString "HillError") 192, Value.str (Str.ofString "/claim/cut.py") 193, Value.int 2 0, Value.int 0 0, Value.int 0 0, Value.int 0 0, Value.int 0 0, Value.ref 18, Value.bool false, Value.int 181 0, Value.ref 19, Value.none, Value.none, Value.none, Value.none, Value.int 194 0, Value.int 2 0, Value.str (Str.ofString "/claim/cut.py") 195] },
  { cls := Value.type "frame", slots := #[some (Value.ref 20), some (Value.ref 3), some (Value.ref 17), none, some (Value.str (Str.ofString "hillsight.errors") 187), none, some (Value.ref 0)] },
  { cls := Value.type "super", data := Data.fields #[Value.ref 24, Value.ref 24, Value.ref 24] },
  { cls := Value.type "builtin_function_or_method", data := Data.fields #[Value.builtin "object.__init_subclass__", Value.ref 24] },
  { cls := Value.type "builtin_function_or_method", data := Data.fields #[Value.builtin "type.__prepare__", Value.type "type"] },
  { cls := Value.type "dict", data := Data.dict #[{ hash := PyData.keyHash P (Str.ofString "__module__"), key := Value.str (Str.ofString "__module__") 214, val := Value.str (Str.ofString "hillsight.errors") 187 }, { hash := PyData.keyHash P (Str.ofString "__qualname__"), key := Value.str (Str.ofString "__qualname__") 216, val := Value.str (Str.ofString "NoLand") 215 }, { hash := PyData.keyHash P (Str.ofString "__firstlineno__"), key := Value.str (Str.ofString "__firstlineno__") 218, val := Value.int 4 217 }, { hash := PyData.keyHash P (Str.ofString "__static_attributes__"), key := Value.str (Str.ofString "__static_attributes__") 219, val := Value.ref 35 }] 4 },
  { cls := Value.type "tuple", data := Data.seq #[] },
  { cls := Value.none, data := Data.fields #[] },
  { cls := Value.type "code", data := Data.fields #[Value.str (Str.ofString "NoLand") 209, Value.str (Str.ofString "NoLand") 210, Value.str (Str.ofString "/claim/cut.py") 211, Value.int 4 0, Value.int 0 0, Value.int 0 0, Value.int 0 0, Value.int 0 0, Value.ref 31, Value.bool false, Value.int 181 0, Value.ref 32, Value.none, Value.none, Value.none, Value.none, Value.int 212 0, Value.int 4 0, Value.str (Str.ofString "/claim/cut.py") 213] },
  { cls := Value.type "frame", slots := #[some (Value.ref 33), some (Value.ref 3), some (Value.ref 30), none, some (Value.str (Str.ofString "hillsight.errors") 187), none, some (Value.ref 0)] },
  { cls := Value.type "super", data := Data.fields #[Value.ref 37, Value.ref 37, Value.ref 37] },
  { cls := Value.type "builtin_function_or_method", data := Data.fields #[Value.builtin "object.__init_subclass__", Value.ref 37] },
  { cls := Value.type "builtin_function_or_method", data := Data.fields #[Value.builtin "type.__prepare__", Value.type "type"] },
  { cls := Value.type "dict", data := Data.dict #[{ hash := PyData.keyHash P (Str.ofString "__module__"), key := Value.str (Str.ofString "__module__") 230, val := Value.str (Str.ofString "hillsight.errors") 187 }, { hash := PyData.keyHash P (Str.ofString "__qualname__"), key := Value.str (Str.ofString "__qualname__") 232, val := Value.str (Str.ofString "NoHill") 231 }, { hash := PyData.keyHash P (Str.ofString "__firstlineno__"), key := Value.str (Str.ofString "__firstlineno__") 234, val := Value.int 6 233 }, { hash := PyData.keyHash P (Str.ofString "__static_attributes__"), key := Value.str (Str.ofString "__static_attributes__") 235, val := Value.ref 47 }] 4 },
  { cls := Value.type "tuple", data := Data.seq #[] },
  { cls := Value.none, data := Data.fields #[] },
  { cls := Value.type "code", data := Data.fields #[Value.str (Str.ofString "NoHill") 225, Value.str (Str.ofString "NoHill") 226, Value.str (Str.ofString "/claim/cut.py") 227, Value.int 6 0, Value.int 0 0, Value.int 0 0, Value.int 0 0, Value.int 0 0, Value.ref 43, Value.bool false, Value.int 181 0, Value.ref 44, Value.none, Value.none, Value.none, Value.none, Value.int 228 0, Value.int 6 0, Value.str (Str.ofString "/claim/cut.py") 229] },
  { cls := Value.type "frame", slots := #[some (Value.ref 45), some (Value.ref 3), some (Value.ref 42), none, some (Value.str (Str.ofString "hillsight.errors") 187), none, some (Value.ref 0)] },
  { cls := Value.type "super", data := Data.fields #[Value.ref 49, Value.ref 49, Value.ref 49] },
  { cls := Value.type "builtin_function_or_method", data := Data.fields #[Value.builtin "object.__init_subclass__", Value.ref 49] },
  { cls := Value.type "builtin_function_or_method", data := Data.fields #[Value.builtin "type.__prepare__", Value.type "type"] },
  { cls := Value.type "dict", data := Data.dict #[{ hash := PyData.keyHash P (Str.ofString "__module__"), key := Value.str (Str.ofString "__module__") 246, val := Value.str (Str.ofString "hillsight.errors") 187 }, { hash := PyData.keyHash P (Str.ofString "__qualname__"), key := Value.str (Str.ofString "__qualname__") 248, val := Value.str (Str.ofString "SameHill") 247 }, { hash := PyData.keyHash P (Str.ofString "__firstlineno__"), key := Value.str (Str.ofString "__firstlineno__") 250, val := Value.int 8 249 }, { hash := PyData.keyHash P (Str.ofString "__static_attributes__"), key := Value.str (Str.ofString "__static_attributes__") 251, val := Value.ref 59 }] 4 },
  { cls := Value.type "tuple", data := Data.seq #[] },
  { cls := Value.none, data := Data.fields #[] },
  { cls := Value.type "code", data := Data.fields #[Value.str (Str.ofString "SameHill") 241, Value.str (Str.ofString "SameHill") 242, Value.str (Str.ofString "/claim/cut.py") 243, Value.int 8 0, Value.int 0 0, Value.int 0 0, Value.int 0 0, Value.int 0 0, Value.ref 55, Value.bool false, Value.int 181 0, Value.ref 56, Value.none, Value.none, Value.none, Value.none, Value.int 244 0, Value.int 8 0, Value.str (Str.ofString "/claim/cut.py") 245] },
  { cls := Value.type "frame", slots := #[some (Value.ref 57), some (Value.ref 3), some (Value.ref 54), none, some (Value.str (Str.ofString "hillsight.errors") 187), none, some (Value.ref 0)] },
  { cls := Value.type "super", data := Data.fields #[Value.ref 61, Value.ref 61, Value.ref 61] },
  { cls := Value.type "builtin_function_or_method", data := Data.fields #[Value.builtin "object.__init_subclass__", Value.ref 61] },
  { cls := Value.type "builtin_function_or_method", data := Data.fields #[Value.builtin "type.__prepare__", Value.type "type"] },
  { cls := Value.type "dict", data := Data.dict #[{ hash := PyData.keyHash P (Str.ofString "__module__"), key := Value.str (Str.ofString "__module__") 262, val := Value.str (Str.ofString "hillsight.errors") 187 }, { hash := PyData.keyHash P (Str.ofString "__qualname__"), key := Value.str (Str.ofString "__qualname__") 264, val := Value.str (Str.ofString "TooHigh") 263 }, { hash := PyData.keyHash P (Str.ofString "__firstlineno__"), key := Value.str (Str.ofString "__firstlineno__") 266, val := Value.int 10 265 }, { hash := PyData.keyHash P (Str.ofString "__static_attributes__"), key := Value.str (Str.ofString "__static_attributes__") 267, val := Value.ref 71 }] 4 },
  { cls := Value.type "tuple", data := Data.seq #[] },
  { cls := Value.none, data := Data.fields #[] },
  { cls := Value.type "code", data := Data.fields #[Value.str (Str.ofString "TooHigh") 257, Value.str (Str.ofString "TooHigh") 258, Value.str (Str.ofString "/claim/cut.py") 259, Value.int 10 0, Value.int 0 0, Value.int 0 0, Value.int 0 0, Value.int 0 0, Value.ref 67, Value.bool false, Value.int 181 0, Value.ref 68, Value.none, Value.none, Value.none, Value.none, Value.int 260 0, Value.int 10 0, Value.str (Str.ofString "/claim/cut.py") 261] },
  { cls := Value.type "frame", slots := #[some (Value.ref 69), some (Value.ref 3), some (Value.ref 66), none, some (Value.str (Str.ofString "hillsight.errors") 187), none, some (Value.ref 0)] },
  { cls := Value.type "super", data := Data.fields #[Value.ref 73, Value.ref 73, Value.ref 73] },
  { cls := Value.type "builtin_function_or_method", data := Data.fields #[Value.builtin "object.__init_subclass__", Value.ref 73] },
  { cls := Value.type "builtin_function_or_method", data := Data.fields #[Value.builtin "type.__prepare__", Value.type "type"] },
  { cls := Value.type "dict", data := Data.dict #[{ hash := PyData.keyHash P (Str.ofString "__module__"), key := Value.str (Str.ofString "__module__") 278, val := Value.str (Str.ofString "hillsight.errors") 187 }, { hash := PyData.keyHash P (Str.ofString "__qualname__"), key := Value.str (Str.ofString "__qualname__") 280, val := Value.str (Str.ofString "NothingDone") 279 }, { hash := PyData.keyHash P (Str.ofString "__firstlineno__"), key := Value.str (Str.ofString "__firstlineno__") 282, val := Value.int 12 281 }, { hash := PyData.keyHash P (Str.ofString "__static_attributes__"), key := Value.str (Str.ofString "__static_attributes__") 283, val := Value.ref 83 }] 4 },
  { cls := Value.type "tuple", data := Data.seq #[] },
  { cls := Value.none, data := Data.fields #[] },
  { cls := Value.type "code", data := Data.fields #[Value.str (Str.ofString "NothingDone") 273, Value.str (Str.ofString "NothingDone") 274, Value.str (Str.ofString "/claim/cut.py") 275, Value.int 12 0, Value.int 0 0, Value.int 0 0, Value.int 0 0, Value.int 0 0, Value.ref 79, Value.bool false, Value.int 181 0, Value.ref 80, Value.none, Value.none, Value.none, Value.none, Value.int 276 0, Value.int 12 0, Value.str (Str.ofString "/claim/cut.py") 277] },
  { cls := Value.type "frame", slots := #[some (Value.ref 81), some (Value.ref 3), some (Value.ref 78), none, some (Value.str (Str.ofString "hillsight.errors") 187), none, some (Value.ref 0)] },
  { cls := Value.type "super", data := Data.fields #[Value.ref 85, Value.ref 85, Value.ref 85] },
  { cls := Value.type "builtin_function_or_method", data := Data.fields #[Value.builtin "object.__init_subclass__", Value.ref 85] },
  { cls := Value.none, data := Data.fields #[] },
  (tm (look F 94)),
  { cls := Value.none, data := Data.fields #[] },
  (tm (look F 101)),
  { cls := Value.none, data := Data.fields #[] },
  (tm (look F 108)),
  { cls := Value.none, data := Data.fields #[] },
  (tm (look F 115)),
  { cls := Value.none, data := Data.fields #[] },
  (tm (look F 122)),
  { cls := Value.none, data := Data.fields #[] },
  (tm (look F 129)),
  { cls := Value.none, data := Data.fields #[] },
  (tm (look F 136)),
  { cls := Value.type "tuple", data := Data.seq #[] },
  { cls := Value.type "builtin_function_or_method", data := Data.fields #[Value.builtin "type.__prepare__", Value.type "type"] },
  { cls := Value.type "dict", data := Data.dict #[{ hash := PyData.keyHash P (Str.ofString "__module__"), key := Value.str (Str.ofString "__module__") 368, val := Value.str (Str.ofString "hillsight.lands") 338 }, { hash := PyData.keyHash P (Str.ofString "__qualname__"), key := Value.str (Str.ofString "__qualname__") 370, val := Value.str (Str.ofString "Land") 369 }, { hash := PyData.keyHash P (Str.ofString "__firstlineno__"), key := Value.str (Str.ofString "__firstlineno__") 372, val := Value.int 52 371 }, { hash := PyData.keyHash P (Str.ofString "__init__"), key := Value.str (Str.ofString "__init__") 380, val := Value.ref 150 }, { hash := PyData.keyHash P (Str.ofString "told"), key := Value.str (Str.ofString "told") 387, val := Value.ref 157 }, { hash := PyData.keyHash P (Str.ofString "seen"), key := Value.str (Str.ofString "seen") 394, val := Value.ref 164 }, { hash := PyData.keyHash P (Str.ofString "moved"), key := Value.str (Str.ofString "moved") 400, val := Value.ref 169 }, { hash := PyData.keyHash P (Str.ofString "lift"), key := Value.str (Str.ofString "lift") 409, val := Value.ref 176 }, { hash := PyData.keyHash P (Str.ofString "back"), key := Value.str (Str.ofString "back") 418, val := Value.ref 183 }, { hash := PyData.keyHash P (Str.ofString "__static_attributes__"), key := Value.str (Str.ofString "__static_attributes__") 421, val := Value.ref 184 }] 10 },
  { cls := Value.type "tuple", data := Data.seq #[] },
  { cls := Value.none, data := Data.fields #[Value.int 54 0, Value.int 4 0, Value.ref 149, Value.int 58 0, Value.int 4 0, Value.ref 156, Value.int 61 0, Value.int 4 0, Value.ref 163, Value.int 64 0, Value.int 4 0, Value.ref 168, Value.int 78 0, Value.int 4 0, Value.ref 175, Value.int 85 0, Value.int 4 0, Value.ref 182] },
  { cls := Value.type "code", data := Data.fields #[Value.str (Str.ofString "Land") 363, Value.str (Str.ofString "Land") 364, Value.str (Str.ofString "/claim/cut.py") 365, Value.int 52 0, Value.int 0 0, Value.int 0 0, Value.int 0 0, Value.int 0 0, Value.ref 140, Value.bool false, Value.int 181 0, Value.ref 141, Value.none, Value.none, Value.none, Value.none, Value.int 366 0, Value.int 52 0, Value.str (Str.ofString "/claim/cut.py") 367] },
  { cls := Value.type "frame", slots := #[some (Value.ref 142), some (Value.ref 3), some (Value.ref 139), none, some (Value.str (Str.ofString "hillsight.lands") 338), none, some (Value.ref 0)] },
  { cls := Value.none, data := Data.fields #[] },
  (tm (look F 150)),
  { cls := Value.none, data := Data.fields #[] },
  (tm (look F 157)),
  { cls := Value.none, data := Data.fields #[] },
  (tm (look F 164)),
  { cls := Value.none, data := Data.fields #[] },
  (tm (look F 169)),
  { cls := Value.none, data := Data.fields #[] },
  (tm (look F 176)),
  { cls := Value.none, data := Data.fields #[] },
  (tm (look F 183)),
  { cls := Value.type "super", data := Data.fields #[Value.ref 186, Value.ref 186, Value.ref 186] },
  { cls := Value.type "builtin_function_or_method", data := Data.fields #[Value.builtin "object.__init_subclass__", Value.ref 186] },
  { cls := Value.none, data := Data.fields #[] },
  (tm (look F 197)),
  { cls := Value.none, data := Data.fields #[] },
  (tm (look F 204)),
  { cls := Value.none, data := Data.fields #[] },
  (tm (look F 211)),
  { cls := Value.none, data := Data.fields #[] },
  (tm (look F 218)),
  { cls := Value.none, data := Data.fields #[] },
  (tm (look F 225)),
  { cls := Value.none, data := Data.fields #[] },
  (tm (look F 232)),
  { cls := Value.none, data := Data.fields #[] },
  (tm (look F 239)),
  { cls := Value.none, data := Data.fields #[] },
  (tm (look F 244)),
  { cls := Value.none, data := Data.fields #[] },
  (tm (look F 249)),
  { cls := Value.none, data := Data.fields #[] },
  (tm (look F 256)),
  { cls := Value.none, data := Data.fields #[] },
  (tm (look F 261)),
  { cls := Value.none, data := Data.fields #[] },
  (tm (look F 268)),
  { cls := Value.none, data := Data.fields #[] },
  (tm (look F 275)),
  { cls := Value.none, data := Data.fields #[] },
  (tm (look F 282)),
  { cls := Value.none, data := Data.fields #[] },
  (tm (look F 289)),
  { cls := Value.none, data := Data.fields #[] },
  (tm (look F 296)),
  { cls := Value.none, data := Data.fields #[] },
  (tm (look F 301))]
def env10 : Env := { scope := PySem.Challenge.pw_uf050038_10.main.scope, locals := mainNs, globals := mainNs, cells := [], code := Value.ref 13, frame := some 14 }
def cod10 : Code := .body (behindTheImports PySem.Challenge.pw_uf050038_10) env10
noncomputable def hp10_0 (F : Params → Frag) : Params → Heap := fun P => cutH F mis10 15 P [(3, tr3 9 9 (Value.str (Str.ofString "__main__") 164)), (12, tr12 0)]
noncomputable def hp10_1 (F : Params → Frag) : Params → Heap := fun P => cutH F mis10 52 P [(3, tr3 12 12 (Value.str (Str.ofString "hillsight.errors") 187)), (12, tr12 9), (24, fun _ => ({ cls := Value.type "type", data := Data.cls { name := Str.ofString "HillError", bases := [Value.type "ValueError"], mro := [Value.ref 24, Value.type "ValueError", Value.type "Exception", Value.type "BaseException", Value.type "object"], ns := 23, qualname := Str.ofString "HillError", subclasses := [Value.ref 37, Value.ref 49] }, slots := #[some (Value.ref 15), none, some (Value.str (Str.ofString "HillError") 189), some (Value.str (Str.ofString "HillError") 197), some (Value.builtin "ValueError.__new__"), some (Value.bool true)] } : Obj))]
noncomputable def hp10_2 (F : Params → Frag) : Params → Heap := fun P => cutH F mis10 88 P [(3, tr3 15 15 (Value.str (Str.ofString "hillsight.slopes") 287)), (12, tr12 18)]
noncomputable def hp10_3 (F : Params → Frag) : Params → Heap := fun P => cutH F mis10 191 P [(3, tr3 25 25 (Value.str (Str.ofString "law_uf050038_10") 429)), (12, tr12 42)]
noncomputable def hp10_4 (F : Params → Frag) : Params → Heap := fun P => cutH F mis10 302 P []
def sts10_1 : List Stmt := ((PySem.Challenge.pw_uf050038_10.main.body.drop 0).take 4)
def sts10_2 : List Stmt := ((PySem.Challenge.pw_uf050038_10.main.body.drop 4).take 4)
def sts10_3 : List Stmt := ((PySem.Challenge.pw_uf050038_10.main.body.drop 8).take 13)
def sts10_4 : List Stmt := ((PySem.Challenge.pw_uf050038_10.main.body.drop 21).take 17)
theorem cutK {p q : Program} {loose : List Str} {Xt : Shared → Bool} {α : Type} {Yf : Shared → α} {Ya : World → α} {N : Nat} {g0 : Bool} {Ha H1 H2 H3 H4 : Params → Heap} {ka k1 k2 k3 k4 m₀ na nb n1 n2 n3 n4 nf M : Nat} {ann : Option Value} {b l1 l2 l3 l4 : List Stmt} {env : Env} {c : Code} {q0 pa pb p1 p2 p3 p4 : Pos}
    (open_ : ∀ w : World, (fencedOpening treeTable p w N).map (fun s => (s.heap, s.gens, s.drawn, s.toks)) = some (boot_heap w.params, Array.mk [], boot_drawn, boot_toks))
    (size : ∀ w : World, ((boot_heap w.params).isNs mainGlobals && (Array.mk [] : Array GenState).size == 0, (boot_heap w.params).objs.size, (boot_heap w.params).nsMap mainGlobals "__annotations__") = (true, m₀, ann))
    (pre : ∀ (w : World) (os : OsState), topGo treeTable p w m₀ ann na ⟨boot_heap w.params, Array.mk [], boot_drawn, boot_toks, os⟩ (topStub p) = some (⟨Ha w.params, Array.mk [], boot_drawn, ka, os⟩, ⟨denote treeTable (.body b env), c, pa, [topFrame q0]⟩))
    (block : ∀ (w : World) (os : OsState), segRun treeTable p w m₀ ann 1 nb ⟨Ha w.params, Array.mk [], boot_drawn, ka, os⟩ (blockOf b env c pa [topFrame q0]) = some (.next, ⟨Ha w.params, Array.mk [], boot_drawn, ka, os⟩, c, pb))
    (hb : b = l1 ++ (l2 ++ (l3 ++ (l4 ++ []))))
    (s1 : ∀ (w : World) (os : OsState), segRun treeTable p w m₀ ann 1 n1 ⟨Ha w.params, Array.mk [], boot_drawn, ka, os⟩ (piecesOf l1 env c pb [topFrame q0]) = some (.next, ⟨H1 w.params, Array.mk [], boot_drawn, k1, os⟩, c, p1))
    (s2 : ∀ (w : World) (os : OsState), segRun treeTable p w m₀ ann 1 n2 ⟨H1 w.params, Array.mk [], boot_drawn, k1, os⟩ (piecesOf l2 env c p1 [topFrame q0]) = some (.next, ⟨H2 w.params, Array.mk [], boot_drawn, k2, os⟩, c, p2))
    (s3 : ∀ (w : World) (os : OsState), segRun treeTable p w m₀ ann 1 n3 ⟨H2 w.params, Array.mk [], boot_drawn, k2, os⟩ (piecesOf l3 env c p2 [topFrame q0]) = some (.next, ⟨H3 w.params, Array.mk [], boot_drawn, k3, os⟩, c, p3))
    (s4 : ∀ (w : World) (os : OsState), segRun treeTable p w m₀ ann 1 n4 ⟨H3 w.params, Array.mk [], boot_drawn, k3, os⟩ (piecesOf l4 env c p3 [topFrame q0]) = some (.next, ⟨H4 w.params, Array.mk [], boot_drawn, k4, os⟩, c, p4))
    (fin : ∀ (w : World) (os : OsState), topRun treeTable p w m₀ ann nf ⟨H4 w.params, Array.mk [], boot_drawn, k4, os⟩ ⟨doneF .next, c, p4, [topFrame q0]⟩ = some ⟨H4 w.params, Array.mk [], boot_drawn, k4, os⟩)
    (hM : M = na + (nb + (n1 + (n2 + (n3 + (n4 + nf)))))) (le : Nat.ble M N = true)
    (looks1 : ∀ (w : World) (os : OsState), (staticsOk (importedModules p.main.body) (boot_heap w.params) (H4 w.params) && namesBound p (H4 w.params) && gensDone ⟨H4 w.params, Array.mk [], boot_drawn, k4, os⟩ && laidKept (boot_heap w.params) (H4 w.params)) = true)
    (looks2 : ∀ (w : World) (os : OsState), openSeen q loose (importedModules p.main.body) Xt g0 ⟨H4 w.params, Array.mk [], boot_drawn, k4, os⟩ = openGood q loose)
    (looks3 : ∀ (w : World) (os : OsState), Yf ⟨H4 w.params, Array.mk [], boot_drawn, k4, os⟩ = Ya w) : LeftO p q loose Xt Yf Ya N g0 := by
  refine LeftO.of_pieces open_ size (fun w os => ?_) le (fun w => funext fun os => by rw [looks1, looks2, looks3])
  subst hM
  refine go_top (pre w os) (piece_block (block w os) ?_)
  rw [hb]
  exact (piece_app (s1 w os) (piece_app (s2 w os) (piece_app (s3 w os) (piece_app (s4 w os) (piece_nil (fin w os))))))
def domA {A B C : Prop} (_ : A ∧ B → C) : Prop := A
theorem both_of {A B C : Prop} (f : A ∧ B → C) (a : domA f) (b : B) : C := f ⟨a, b⟩
set_option hygiene false in
local macro_rules | `(tactic| o_law) => `(tactic| refine holds_law (by decide +kernel) fun said => ?_)
set_option hygiene false in
local macro_rules | `(tactic| o_head $H:term) => `(tactic| (refine holds_open (q := Mine.q10) (loose := [Str.ofString "MOST_HEIGHT"]) (Xt := fun s => xlAt Mine.q10 [(Str.ofString "MOST_HEIGHT", WData.int 1000000000000000000)] s && recOk (RowW.records (PySem.W.OpenRow.toRowW (PySem.W.OpenLaw.row PySem.Challenge.rw_uf050038_10))) s) (XP := XL Mine.q10 [(Str.ofString "MOST_HEIGHT", WData.int 1000000000000000000)]) (Yf := Hook.obs $H) (Ya := Hook.val $H) (YP := Hook.says $H) (N := 5004) (And.left ?hc) (Hook.of $H) (Hook.keeps $H) (fun s e => xl_of s (Bool.and_eq_true_iff.mp e).1) XL.keeps (by rfl) (by rfl) (by rfl) (fun s e => recFacts_of (Bool.and_eq_true_iff.mp e).2) (by rfl) (by first | assumption | decide +kernel) (by decide +kernel) ⟨rfl, rfl, rfl, rfl, rfl, by decide +kernel⟩ ?hw (And.right ?hc); all_goals (try clear said)))
open_top hd10 for PySem.Challenge.rw_uf050038_10
theorem ts10_1 (w : World) (os : OsState) : segRun treeTable (PySem.W.OpenLaw.row PySem.Challenge.rw_uf050038_10).prog w 11 (some (Value.ref 6)) 1 622 (⟨hp10_0 Mine.hd10.heap_1 w.params, Array.mk [], boot_drawn, 187, os⟩ : Shared) (piecesOf sts10_1 env10 cod10 { line := 0, col := 0, endLine := 0, endCol := 0 } [topFrame { line := 0, col := 0, endLine := 0, endCol := 0 }]) = some (.next, (⟨hp10_1 Mine.hd10.heap_1 w.params, Array.mk [], boot_drawn, 239, os⟩ : Shared), cod10, { line := 6, col := 0, endLine := 7, endCol := 8 }) := by kernel_rfl
theorem ts10_2 (w : World) (os : OsState) : segRun treeTable (PySem.W.OpenLaw.row PySem.Challenge.rw_uf050038_10).prog w 11 (some (Value.ref 6)) 1 649 (⟨hp10_1 Mine.hd10.heap_1 w.params, Array.mk [], boot_drawn, 239, os⟩ : Shared) (piecesOf sts10_2 env10 cod10 { line := 6, col := 0, endLine := 7, endCol := 8 } [topFrame { line := 0, col := 0, endLine := 0, endCol := 0 }]) = some (.next, (⟨hp10_2 Mine.hd10.heap_1 w.params, Array.mk [], boot_drawn, 289, os⟩ : Shared), cod10, { line := 14, col := 0, endLine := 14, endCol := 8 }) := by kernel_rfl
theorem ts10_3 (w : World) (os : OsState) : segRun treeTable (PySem.W.OpenLaw.row PySem.Challenge.rw_uf050038_10).prog w 11 (some (Value.ref 6)) 1 647 (⟨hp10_2 Mine.hd10.heap_1 w.params, Array.mk [], boot_drawn, 289, os⟩ : Shared) (piecesOf sts10_3 env10 cod10 { line := 14, col := 0, endLine := 14, endCol := 8 } [topFrame { line := 0, col := 0, endLine := 0, endCol := 0 }]) = some (.next, (⟨hp10_3 Mine.hd10.heap_1 w.params, Array.mk [], boot_drawn, 431, os⟩ : Shared), cod10, { line := 90, col := 0, endLine := 90, endCol := 8 }) := by kernel_rfl
theorem ts10_4 (w : World) (os : OsState) : segRun treeTable (PySem.W.OpenLaw.row PySem.Challenge.rw_uf050038_10).prog w 11 (some (Value.ref 6)) 1 525 (⟨hp10_3 Mine.hd10.heap_1 w.params, Array.mk [], boot_drawn, 431, os⟩ : Shared) (piecesOf sts10_4 env10 cod10 { line := 90, col := 0, endLine := 90, endCol := 8 } [topFrame { line := 0, col := 0, endLine := 0, endCol := 0 }]) = some (.next, (⟨hp10_4 Mine.hd10.heap_1 w.params, Array.mk [], boot_drawn, 589, os⟩ : Shared), cod10, { line := 223, col := 0, endLine := 259, endCol := 115 }) := by kernel_rfl
theorem left10 : domA Mine.hd10 := by
  delta domA
  exact cutK (Ha := hp10_0 Mine.hd10.heap_1) (ka := 187) (m₀ := 11) (ann := some (Value.ref 6)) (na := 12) (nb := 1) (nf := 2) (b := behindTheImports PySem.Challenge.pw_uf050038_10) (env := env10) (c := cod10) (q0 := { line := 0, col := 0, endLine := 0, endCol := 0 }) (pa := { line := 0, col := 0, endLine := 0, endCol := 0 }) (pb := { line := 0, col := 0, endLine := 0, endCol := 0 }) (H1 := hp10_1 Mine.hd10.heap_1) (k1 := 239) (n1 := 622) (l1 := sts10_1) (p1 := { line := 6, col := 0, endLine := 7, endCol := 8 }) (H2 := hp10_2 Mine.hd10.heap_1) (k2 := 289) (n2 := 649) (l2 := sts10_2) (p2 := { line := 14, col := 0, endLine := 14, endCol := 8 }) (H3 := hp10_3 Mine.hd10.heap_1) (k3 := 431) (n3 := 647) (l3 := sts10_3) (p3 := { line := 90, col := 0, endLine := 90, endCol := 8 }) (H4 := hp10_4 Mine.hd10.heap_1) (k4 := 589) (n4 := 525) (l4 := sts10_4) (p4 := { line := 223, col := 0, endLine := 259, endCol := 115 }) (M := 2458) (boot_open (by kernel_rfl) (by decide +kernel) (fun s => by kernel_rfl)) (by intro w; kernel_rfl) (by intro w os; kernel_rfl) (by intro w os; kernel_rfl) (by kernel_rfl) ts10_1 ts10_2 ts10_3 ts10_4 (by intro w os; kernel_rfl) (by kernel_rfl) (by decide +kernel) (by intro w os; kernel_rfl) (by intro w os; kernel_rfl) (by intro w os; kernel_rfl)
end Mine
end

set_option autoImplicit false
namespace Mine
open PySem PySem.W PySem.Calls PySem.Spec PyProof.Rows
set_option Elab.async false
set_option linter.unusedSimpArgs false
set_option linter.unusedVariables false

noncomputable abbrev pgo (prog : Program) (w : World) (p : Program) (loose : List Str) (mean : ExcName → Option Value) (mg mb : Str → Option Value) : Pg := ⟨prog, w, Mine.hd10.heap_1 w.params, p, loose, mean, mg, mb⟩
section
variable {prog : Program} {w : World} {p : Program} {loose : List Str} {mean : ExcName → Option Value} {mg mb : Str → Option Value} {lev : Nat} {ns : List Int}
set_option maxRecDepth 100000
set_option maxHeartbeats 8000000

theorem gl_len : (pgo prog w p loose mean mg mb).gl "len" = some (.builtin "len") := by kernel_rfl
theorem gl_isinstance : (pgo prog w p loose mean mg mb).gl "isinstance" = some (.builtin "isinstance") := by kernel_rfl
theorem gl_all : (pgo prog w p loose mean mg mb).gl "all" = some (.builtin "all") := by kernel_rfl
theorem gl_range : (pgo prog w p loose mean mg mb).gl "range" = some (.type "range") := by kernel_rfl
theorem gl_list : (pgo prog w p loose mean mg mb).gl "list" = some (.type "list") := by kernel_rfl
theorem gl_int : (pgo prog w p loose mean mg mb).gl "int" = some (.type "int") := by kernel_rfl
theorem gl_bool : (pgo prog w p loose mean mg mb).gl "bool" = some (.type "bool") := by kernel_rfl
theorem gl_tuple : (pgo prog w p loose mean mg mb).gl "tuple" = some (.type "tuple") := by kernel_rfl
theorem gl_str : (pgo prog w p loose mean mg mb).gl "str" = some (.type "str") := by kernel_rfl
theorem gl_ValueError : (pgo prog w p loose mean mg mb).gl "ValueError" = some (.type "ValueError") := by kernel_rfl
theorem gl_HillError : (pgo prog w p loose mean mg mb).gl "HillError" = some (.ref 24) := by kernel_rfl
theorem gl_NoLand : (pgo prog w p loose mean mg mb).gl "NoLand" = some (.ref 37) := by kernel_rfl
theorem gl_NoHill : (pgo prog w p loose mean mg mb).gl "NoHill" = some (.ref 49) := by kernel_rfl
theorem gl_SameHill : (pgo prog w p loose mean mg mb).gl "SameHill" = some (.ref 61) := by kernel_rfl
theorem gl_TooHigh : (pgo prog w p loose mean mg mb).gl "TooHigh" = some (.ref 73) := by kernel_rfl
theorem gl_NothingDone : (pgo prog w p loose mean mg mb).gl "NothingDone" = some (.ref 85) := by kernel_rfl
theorem gl_slope : (pgo prog w p loose mean mg mb).gl "slope" = some (.ref 94) := by kernel_rfl
theorem gl_steeper : (pgo prog w p loose mean mg mb).gl "steeper" = some (.ref 101) := by kernel_rfl
theorem gl_need_hill : (pgo prog w p loose mean mg mb).gl "need_hill" = some (.ref 108) := by kernel_rfl
theorem gl_seen_later : (pgo prog w p loose mean mg mb).gl "seen_later" = some (.ref 115) := by kernel_rfl
theorem gl_sights : (pgo prog w p loose mean mg mb).gl "sights" = some (.ref 122) := by kernel_rfl
theorem gl_is_height : (pgo prog w p loose mean mg mb).gl "is_height" = some (.ref 129) := by kernel_rfl
theorem gl_checked : (pgo prog w p loose mean mg mb).gl "checked" = some (.ref 136) := by kernel_rfl
theorem gl_Land : (pgo prog w p loose mean mg mb).gl "Land" = some (.ref 186) := by kernel_rfl
theorem gl_sole : (pgo prog w p loose mean mg mb).gl "_law_sole" = some (.ref 197) := by kernel_rfl
theorem gl_whole : (pgo prog w p loose mean mg mb).gl "_law_whole" = some (.ref 204) := by kernel_rfl
theorem gl_cell_at : (pgo prog w p loose mean mg mb).gl "_law_cell_at" = some (.ref 211) := by kernel_rfl
theorem gl_sights_by : (pgo prog w p loose mean mg mb).gl "_law_sights_by" = some (.ref 218) := by kernel_rfl
theorem gl_base : (pgo prog w p loose mean mg mb).gl "_law_base" = some (.ref 225) := by kernel_rfl
theorem gl_told : (pgo prog w p loose mean mg mb).gl "_law_told" = some (.ref 232) := by kernel_rfl
theorem gl_deed_by : (pgo prog w p loose mean mg mb).gl "_law_deed_by" = some (.ref 239) := by kernel_rfl
theorem gl_lacking : (pgo prog w p loose mean mg mb).gl "_law_lacking" = some (.ref 244) := by kernel_rfl
theorem gl_due_by : (pgo prog w p loose mean mg mb).gl "_law_due_by" = some (.ref 249) := by kernel_rfl
theorem gl_alike : (pgo prog w p loose mean mg mb).gl "_law_alike" = some (.ref 256) := by kernel_rfl
theorem gl_kept : (pgo prog w p loose mean mg mb).gl "_law_kept" = some (.ref 261) := by kernel_rfl
theorem gl_stands : (pgo prog w p loose mean mg mb).gl "_law_stands" = some (.ref 268) := by kernel_rfl
theorem gl_lifted : (pgo prog w p loose mean mg mb).gl "_law_lifted" = some (.ref 275) := by kernel_rfl
theorem gl_all_back : (pgo prog w p loose mean mg mb).gl "_law_all_back" = some (.ref 282) := by kernel_rfl
theorem gl_done : (pgo prog w p loose mean mg mb).gl "_law_done" = some (.ref 289) := by kernel_rfl
theorem gl_goes : (pgo prog w p loose mean mg mb).gl "_law_goes" = some (.ref 296) := by kernel_rfl
theorem gl_MOST_HILLS : (pgo prog w p loose mean mg mb).gl "MOST_HILLS" = some (.int 200 340) := by kernel_rfl
theorem gl_MOST_HEIGHT : (pgo prog w p loose mean mg mb).gl "MOST_HEIGHT" = some (.int 1000000000000000000 344) := by kernel_rfl
theorem exm_NoLand_HillError : exmOne (pgo prog w p loose mean mg mb).K (.ref 37) (.ref 24) = some true := by kernel_rfl
theorem exm_NoLand_NoLand : exmOne (pgo prog w p loose mean mg mb).K (.ref 37) (.ref 37) = some true := by kernel_rfl
theorem exm_NoLand_NoHill : exmOne (pgo prog w p loose mean mg mb).K (.ref 37) (.ref 49) = some false := by kernel_rfl
theorem exm_NoLand_SameHill : exmOne (pgo prog w p loose mean mg mb).K (.ref 37) (.ref 61) = some false := by kernel_rfl
theorem exm_NoLand_TooHigh : exmOne (pgo prog w p loose mean mg mb).K (.ref 37) (.ref 73) = some false := by kernel_rfl
theorem exm_NoLand_NothingDone : exmOne (pgo prog w p loose mean mg mb).K (.ref 37) (.ref 85) = some false := by kernel_rfl
theorem exm_NoHill_HillError : exmOne (pgo prog w p loose mean mg mb).K (.ref 49) (.ref 24) = some true := by kernel_rfl
theorem exm_NoHill_NoLand : exmOne (pgo prog w p loose mean mg mb).K (.ref 49) (.ref 37) = some false := by kernel_rfl
theorem exm_NoHill_NoHill : exmOne (pgo prog w p loose mean mg mb).K (.ref 49) (.ref 49) = some true := by kernel_rfl
theorem exm_NoHill_SameHill : exmOne (pgo prog w p loose mean mg mb).K (.ref 49) (.ref 61) = some false := by kernel_rfl
theorem exm_NoHill_TooHigh : exmOne (pgo prog w p loose mean mg mb).K (.ref 49) (.ref 73) = some false := by kernel_rfl
theorem exm_NoHill_NothingDone : exmOne (pgo prog w p loose mean mg mb).K (.ref 49) (.ref 85) = some false := by kernel_rfl
theorem exm_SameHill_HillError : exmOne (pgo prog w p loose mean mg mb).K (.ref 61) (.ref 24) = some true := by kernel_rfl
theorem exm_SameHill_NoLand : exmOne (pgo prog w p loose mean mg mb).K (.ref 61) (.ref 37) = some false := by kernel_rfl
theorem exm_SameHill_NoHill : exmOne (pgo prog w p loose mean mg mb).K (.ref 61) (.ref 49) = some false := by kernel_rfl
theorem exm_SameHill_SameHill : exmOne (pgo prog w p loose mean mg mb).K (.ref 61) (.ref 61) = some true := by kernel_rfl
theorem exm_SameHill_TooHigh : exmOne (pgo prog w p loose mean mg mb).K (.ref 61) (.ref 73) = some false := by kernel_rfl
theorem exm_SameHill_NothingDone : exmOne (pgo prog w p loose mean mg mb).K (.ref 61) (.ref 85) = some false := by kernel_rfl
theorem exm_TooHigh_HillError : exmOne (pgo prog w p loose mean mg mb).K (.ref 73) (.ref 24) = some true := by kernel_rfl
theorem exm_TooHigh_NoLand : exmOne (pgo prog w p loose mean mg mb).K (.ref 73) (.ref 37) = some false := by kernel_rfl
theorem exm_TooHigh_NoHill : exmOne (pgo prog w p loose mean mg mb).K (.ref 73) (.ref 49) = some false := by kernel_rfl
theorem exm_TooHigh_SameHill : exmOne (pgo prog w p loose mean mg mb).K (.ref 73) (.ref 61) = some false := by kernel_rfl
theorem exm_TooHigh_TooHigh : exmOne (pgo prog w p loose mean mg mb).K (.ref 73) (.ref 73) = some true := by kernel_rfl
theorem exm_TooHigh_NothingDone : exmOne (pgo prog w p loose mean mg mb).K (.ref 73) (.ref 85) = some false := by kernel_rfl
theorem exm_NothingDone_HillError : exmOne (pgo prog w p loose mean mg mb).K (.ref 85) (.ref 24) = some true := by kernel_rfl
theorem exm_NothingDone_NoLand : exmOne (pgo prog w p loose mean mg mb).K (.ref 85) (.ref 37) = some false := by kernel_rfl
theorem exm_NothingDone_NoHill : exmOne (pgo prog w p loose mean mg mb).K (.ref 85) (.ref 49) = some false := by kernel_rfl
theorem exm_NothingDone_SameHill : exmOne (pgo prog w p loose mean mg mb).K (.ref 85) (.ref 61) = some false := by kernel_rfl
theorem exm_NothingDone_TooHigh : exmOne (pgo prog w p loose mean mg mb).K (.ref 85) (.ref 73) = some false := by kernel_rfl
theorem exm_NothingDone_NothingDone : exmOne (pgo prog w p loose mean mg mb).K (.ref 85) (.ref 85) = some true := by kernel_rfl
theorem xcf_NoHill : XcFacts (pgo prog w p loose mean mg mb).K 49 := ⟨by kernel_rfl, by kernel_rfl, by kernel_rfl, by kernel_rfl, by kernel_rfl, by kernel_rfl, by kernel_rfl⟩
theorem kit_NoHill_HillError : kitOne (pgo prog w p loose mean mg mb).K (.ref 49) (.ref 24) = some true := by kernel_rfl
theorem kit_NoHill_NoLand : kitOne (pgo prog w p loose mean mg mb).K (.ref 49) (.ref 37) = some false := by kernel_rfl
theorem kit_NoHill_NoHill : kitOne (pgo prog w p loose mean mg mb).K (.ref 49) (.ref 49) = some true := by kernel_rfl
theorem kit_NoHill_SameHill : kitOne (pgo prog w p loose mean mg mb).K (.ref 49) (.ref 61) = some false := by kernel_rfl
theorem kit_NoHill_TooHigh : kitOne (pgo prog w p loose mean mg mb).K (.ref 49) (.ref 73) = some false := by kernel_rfl
theorem kit_NoHill_NothingDone : kitOne (pgo prog w p loose mean mg mb).K (.ref 49) (.ref 85) = some false := by kernel_rfl
theorem kit_NoHill_VE : kitOne (pgo prog w p loose mean mg mb).K (.ref 49) (.type "ValueError") = some true := by kernel_rfl
theorem xcf_TooHigh : XcFacts (pgo prog w p loose mean mg mb).K 73 := ⟨by kernel_rfl, by kernel_rfl, by kernel_rfl, by kernel_rfl, by kernel_rfl, by kernel_rfl, by kernel_rfl⟩
theorem kit_TooHigh_HillError : kitOne (pgo prog w p loose mean mg mb).K (.ref 73) (.ref 24) = some true := by kernel_rfl
theorem kit_TooHigh_NoLand : kitOne (pgo prog w p loose mean mg mb).K (.ref 73) (.ref 37) = some false := by kernel_rfl
theorem kit_TooHigh_NoHill : kitOne (pgo prog w p loose mean mg mb).K (.ref 73) (.ref 49) = some false := by kernel_rfl
theorem kit_TooHigh_SameHill : kitOne (pgo prog w p loose mean mg mb).K (.ref 73) (.ref 61) = some false := by kernel_rfl
theorem kit_TooHigh_TooHigh : kitOne (pgo prog w p loose mean mg mb).K (.ref 73) (.ref 73) = some true := by kernel_rfl
theorem kit_TooHigh_NothingDone : kitOne (pgo prog w p loose mean mg mb).K (.ref 73) (.ref 85) = some false := by kernel_rfl
theorem kit_TooHigh_VE : kitOne (pgo prog w p loose mean mg mb).K (.ref 73) (.type "ValueError") = some true := by kernel_rfl
theorem xcf_NothingDone : XcFacts (pgo prog w p loose mean mg mb).K 85 := ⟨by kernel_rfl, by kernel_rfl, by kernel_rfl, by kernel_rfl, by kernel_rfl, by kernel_rfl, by kernel_rfl⟩
theorem kit_NothingDone_HillError : kitOne (pgo prog w p loose mean mg mb).K (.ref 85) (.ref 24) = some true := by kernel_rfl
theorem kit_NothingDone_NoLand : kitOne (pgo prog w p loose mean mg mb).K (.ref 85) (.ref 37) = some false := by kernel_rfl
theorem kit_NothingDone_NoHill : kitOne (pgo prog w p loose mean mg mb).K (.ref 85) (.ref 49) = some false := by kernel_rfl
theorem kit_NothingDone_SameHill : kitOne (pgo prog w p loose mean mg mb).K (.ref 85) (.ref 61) = some false := by kernel_rfl
theorem kit_NothingDone_TooHigh : kitOne (pgo prog w p loose mean mg mb).K (.ref 85) (.ref 73) = some false := by kernel_rfl
theorem kit_NothingDone_NothingDone : kitOne (pgo prog w p loose mean mg mb).K (.ref 85) (.ref 85) = some true := by kernel_rfl
theorem kit_NothingDone_VE : kitOne (pgo prog w p loose mean mg mb).K (.ref 85) (.type "ValueError") = some true := by kernel_rfl
local macro_rules | `(tactic| walk_at "gl") => `(tactic| (simp only [gl_len, gl_isinstance, gl_all, gl_range, gl_list, gl_int, gl_bool, gl_tuple, gl_str, gl_ValueError, gl_HillError, gl_NoLand, gl_NoHill, gl_SameHill, gl_TooHigh, gl_NothingDone, gl_slope, gl_steeper, gl_need_hill, gl_seen_later, gl_sights, gl_is_height, gl_checked, gl_Land, gl_sole, gl_whole, gl_cell_at, gl_sights_by, gl_base, gl_told, gl_deed_by, gl_lacking, gl_due_by, gl_alike, gl_kept, gl_stands, gl_lifted, gl_all_back, gl_done, gl_goes, gl_MOST_HILLS, gl_MOST_HEIGHT]; first | done | rfl))
local macro_rules | `(tactic| walk_at "nm") => `(tactic| first | (with_reducible assumption) | (with_reducible exact setN_same) | ((with_reducible refine Eq.trans (setN_ne ?_) ?_); rfl; walk_at "nm") | ((with_reducible first | refine Eq.trans bind_c ?_ | refine Eq.trans bind_n ?_ | refine Eq.trans all_c ?_ | refine Eq.trans all_n ?_); walk_at "nm") | (refine Eq.trans (compLoc_eq (by decide +kernel)) ?_; walk_at "nm") | (simp only [setN, setAll, bindV, ofString_inj, String.reduceEq, if_true, if_false]; first | done | with_reducible rfl | with_reducible assumption))
local macro_rules | `(tactic| walk_at "hp") => `(tactic| first | with_reducible assumption | exact app_new | (refine app_get ?_; walk_at "hp") | with_reducible rfl | (simp; done) | rfl)
local macro_rules | `(tactic| walk_at "cx") => `(tactic| with_reducible assumption)
local macro_rules | `(tactic| walk_at "vc") => `(tactic| first
  | (show E _ _ _ _ _ _; first | refine e_name (by walk_at "nm") ?_ | refine e_int ?_ | refine e_bin ?_ | refine e_sub rfl ?_ | refine e_cmp rfl ?_ | refine e_callF (by walk_at "cx") (by walk_at "gl") (by kernel_rfl!) (by kernel_rfl) rfl ?_ | refine e_callB (by walk_at "cx") (by walk_at "gl") (by kernel_rfl) rfl ?_ | refine e_callT (by walk_at "cx") (by walk_at "gl") (by kernel_rfl) rfl ?_ | refine e_glob (by walk_at "cx") (by kernel_rfl) (by walk_at "gl") ?_ | refine e_tuple ?_ | refine e_boolop ?_ | refine e_un ?_ | refine e_cmp2 rfl ?_ | refine e_list ?_ | refine e_bool ?_ | refine e_str ?_ | refine e_none ?_ | refine e_append rfl rfl rfl ?_ | refine e_pop rfl rfl ?_ | refine e_comp (by walk_at "cx") (by kernel_rfl) rfl ?_ | refine e_slice ?_ | refine e_attr (by walk_at "cx") ?_ | refine e_meth (by walk_at "cx") rfl rfl rfl rfl ?_ | refine e_callK (by walk_at "cx") (by walk_at "gl") (by kernel_rfl) (by kernel_rfl) rfl ?_ | refine e_dict0 ?_)
  | (show Sz _ _; refine sz rfl ?_)
  | (show Lst _ _ _; refine lst_ref (by walk_at "hp") ?_)
  | (show Es _ _ _ _ _ _; first | refine es_cons rfl ?_ | refine es_nil ?_)
  | (show Ss _ _ _ _ _ _; first | refine ss_asg ?_ | refine ss_expr ?_ | refine ss_ret ?_ | refine ss_nil ?_ | refine ss_raise ?_ | refine ss_aug ?_)
  | (show S _ _ _ _ _ _; first | refine s_comp (by walk_at "cx") (by kernel_rfl) (by kernel_rfl) rfl ?_ | refine s_asg (by walk_at "cx") rfl (by kernel_rfl) ?_ | refine s_asgS rfl ?_ | refine s_ret ?_ | refine s_expr rfl ?_ | refine s_raise (by walk_at "cx") (by walk_at "gl") (by kernel_rfl) (by kernel_rfl) (by kernel_rfl) rfl ?_ | refine s_asgA (by walk_at "cx") rfl ?_ | refine s_aug (.inl rfl) ?_ | refine s_aug (.inr rfl) ?_ | refine s_asg2 (by walk_at "cx") rfl rfl (by kernel_rfl) ?_)
  | (show Bin _ _ _ _ _ _ _ _; first | refine bin_add ?_ | refine bin_sub ?_ | refine bin_mul ?_ ?_ | refine bin_mod ?_ ?_ | refine bin_div ?_ ?_ | refine bin_pow18 ?_ | refine bin_lists (by walk_at "hp") (by walk_at "hp") ?_ ?_ | refine bin_str1 ?_)
  | (show Cmp _ _ _ _ _ _ _ _; first | refine cmp_lt ?_ | refine cmp_gt ?_ | refine cmp_le ?_ | refine cmp_ge ?_ | refine cmp_eq ?_ | refine cmp_ne ?_ | refine cmp_is_nn ?_ | refine cmp_is_vn rfl ?_ | refine cmp_isn_nn ?_ | refine cmp_str_eq (by kernel_rfl) ?_)
  | (show Tru _ _ _ _ _ _; refine tru_bool ?_)
  | (show B _ _ _ _ _ _; first | refine b_cmp rfl ?_ | refine b_not ?_ | refine b_boolop ?_ | refine b_cmp2 rfl ?_ | refine b_plain rfl ?_)
  | (show BL _ _ _ _ _ _ _; first | refine bl_and ?_ | refine bl_or ?_ | refine bl_and_nil ?_ | refine bl_or_nil ?_)
  | (show EL _ _ _ _ _ _ _; first | refine el_one ?_ | refine el_and ?_)
  | (show Un _ _ _ _ _ _ _; first | refine un_not ?_ | refine un_neg ?_)
  | (show Sub _ _ _ _ _ _ _; first | refine sb_tup ⟨by decide⟩ (by rfl) ?_ | refine sb_int (by walk_at "hp") ?_ ?_ | refine sb_scr (by walk_at "cx") ?_ (by with_reducible assumption) ?_)
  | (show CB _ _ _ _ _ _ _; first | refine isi_ii ?_ | refine isi_ib ?_ | refine isi_bi ?_ | refine isi_bb ?_ | refine isi_tt ?_ | refine isi_ti ?_ | refine isi_ni ?_ | refine isi_si ?_ | refine isi_rl (by walk_at "hp") ?_ | refine isi_ri (by walk_at "hp") ?_ | refine cb_len_scr (by walk_at "cx") ?_ | refine cb_len_tup rfl ?_ | refine cb_len_int (by walk_at "hp") ?_ ?_ | refine cb_append (by walk_at "hp") ?_ ?_ | refine cb_pop (by walk_at "hp") ?_ ?_ | refine isi_ss ?_ | refine isi_st ?_ | refine isi_nt ?_ | refine isi_ts ?_)
  | (show CT _ _ _ _ _ _ _; first | refine ct_int ?_ | refine ct_list_ref (by walk_at "hp") ?_ ?_)
  | (show If _ _ _; first | refine if_t ?_ | refine if_f ?_)
  | (show Hd _ _ _ _ _ _ _; first | refine hd_hit1 (by walk_at "cx") (by walk_at "gl") (by first | exact exm_NoLand_HillError | exact exm_NoLand_NoLand | exact exm_NoHill_HillError | exact exm_NoHill_NoHill | exact exm_SameHill_HillError | exact exm_SameHill_SameHill | exact exm_TooHigh_HillError | exact exm_TooHigh_TooHigh | exact exm_NothingDone_HillError | exact exm_NothingDone_NothingDone) (by kernel_rfl) (by kernel_rfl) (fun _ _ => ?_) | refine hd_no (by walk_at "cx") (by walk_at "gl") (by first | exact exm_NoLand_NoHill | exact exm_NoLand_SameHill | exact exm_NoLand_TooHigh | exact exm_NoLand_NothingDone | exact exm_NoHill_NoLand | exact exm_NoHill_SameHill | exact exm_NoHill_TooHigh | exact exm_NoHill_NothingDone | exact exm_SameHill_NoLand | exact exm_SameHill_NoHill | exact exm_SameHill_TooHigh | exact exm_SameHill_NothingDone | exact exm_TooHigh_NoLand | exact exm_TooHigh_NoHill | exact exm_TooHigh_SameHill | exact exm_TooHigh_NothingDone | exact exm_NothingDone_NoLand | exact exm_NothingDone_NoHill | exact exm_NothingDone_SameHill | exact exm_NothingDone_TooHigh) (by kernel_rfl) ?_)
  | (show Opt _ _ _ _ _ _; first | refine opt_none ?_ | refine opt_some ?_)
  | (show Slc _ _ _ _ _ _; refine slc_ref (by walk_at "hp") ?_ ?_)
  | (show Rng _ _; first | refine rng1 ?_ ?_ | refine rng2 ?_ ?_))
local macro_rules | `(tactic| walk_at "side") => `(tactic| first | assumption | (refine Side.mk ?_; first | assumption | decide | omega | exact .inr (by decide) | exact .inl (by decide) | exact .inr (by omega) | exact .inl (by omega) | (simp only [List.length_map, List.length_append, List.length_cons, List.length_nil, sizeLine] <;> omega)))

theorem slope_ok {X : Value → List O → Prop} {Q : V → List O → Prop} {hp : List O} {i : Nat} {xs : List Int} {a b : Int} (hi : hp[i]? = some (.list (xs.map .int))) (s : Side (0 ≤ a ∧ a < xs.length ∧ 0 ≤ b ∧ b < xs.length ∧ xs.length < 2 ^ 62))
    (h : Q (.tup [.int (g xs b - g xs a), .int (b - a)]) hp) : CallOK (pgo prog w p loose mean mg mb) (lev + 1) true ns 94 [.ref i, .int a, .int b] hp X Q := by
  refine fn_run (xs := ["land", "a", "b"]) (fnAt_of rfl (by kernel_rfl) (fn3 fun _ _ _ => rfl) (by decide) (by decide) rfl rfl rfl) rfl (by decide +kernel) fun c hc => ?_
  repeat' walk_at "vc"
  all_goals first | exact h | exact ⟨by have := s.h; omega⟩

theorem steeper_ok {X : Value → List O → Prop} {Q : V → List O → Prop} {hp : List O} {a b c d : Int} (s : Side (b.natAbs < 2 ^ 64 ∧ d.natAbs < 2 ^ 64)) (h : Q (.bool (decide (c * b < a * d))) hp) : CallOK (pgo prog w p loose mean mg mb) (lev + 1) true ns 101 [.tup [.int a, .int b], .tup [.int c, .int d]] hp X Q := by
  refine fn_run (xs := ["one", "other"]) (fnAt_of rfl (by kernel_rfl) (fn2 fun _ _ => rfl) (by decide) (by decide) rfl rfl rfl) rfl (by decide +kernel) fun c hc => ?_
  repeat' walk_at "vc"
  all_goals first | exact h | exact ⟨.inr s.h.1⟩ | exact ⟨.inr s.h.2⟩

theorem whole_any {X : Value → List O → Prop} {Q : V → List O → Prop} {hp : List O} {v : V} {qt : Bool} (hv : Plain hp v) (hi : ∀ a, v = .int a → Q (.bool true) hp) (hn : (∀ a, v ≠ .int a) → Q (.bool false) hp) : CallOK (pgo prog w p loose mean mg mb) (lev + 1) qt ns 204 [v] hp X Q := by
  refine fn_run (xs := ["_law_found"]) (fnAt_of rfl (by kernel_rfl) (fn1 fun _ => rfl) (by decide) (by decide) rfl rfl rfl) rfl (by decide +kernel) fun c hc => ?_
  cases v with
  | int a =>
    repeat' walk_at "vc"
    exact hi a rfl
  | ref j =>
    obtain ⟨ys, hj⟩ := hv
    repeat' walk_at "vc"
    exact hn fun _ e => by cases e
  | scr => exact hv.elim
  | glob _ => exact hv.elim
  | _ =>
    repeat' walk_at "vc"
    exact hn fun _ e => by cases e

def cell (ns : List Int) (k : Int) : Int := (ns[k.toNat]?).getD 0
theorem cell_at_ok {X : Value → List O → Prop} {Q : V → List O → Prop} {hp : List O} {k : Int} (hn : ns.length < 2 ^ 62) (h0 : Side (0 ≤ k)) (h : Q (.int (cell ns k)) hp) : CallOK (pgo prog w p loose mean mg mb) (lev + 1) true ns 211 [.scr, .int k] hp X Q := by
  refine fn_run (xs := ["_law_script", "_law_k"]) (fnAt_of rfl (by kernel_rfl) (fn2 fun _ _ => rfl) (by decide) (by decide) rfl rfl rfl) rfl (by decide +kernel) fun c hc => ?_
  repeat' walk_at "vc"
  refine ss_if ?_
  repeat' walk_at "vc"
  have h0' := h0.h
  refine if_decide (fun q => ?_) (fun q => ?_)
  · have e : ns[k.toNat]? = some (cell ns k) := by
      unfold cell
      rw [List.getElem?_eq_getElem (by omega)]
      rfl
    repeat' walk_at "vc"
    · exact h0
    · exact h
  · have e : cell ns k = 0 := by
      unfold cell
      rw [List.getElem?_eq_none (by omega)]
      rfl
    repeat' walk_at "vc"
    rw [e] at h
    exact h

theorem sole_ok {X : Value → List O → Prop} {Q : V → List O → Prop} {hp : List O} {i : Nat} {D : Addr} {b1 b2 b3 b4 b5 qt : Bool} (e : hp[i]? = some (.exn D)) (f : XcFacts (pgo prog w p loose mean mg mb).K D)
    (k1 : kitOne (pgo prog w p loose mean mg mb).K (.ref D) (.ref 37) = some b1) (k2 : kitOne (pgo prog w p loose mean mg mb).K (.ref D) (.ref 49) = some b2) (k3 : kitOne (pgo prog w p loose mean mg mb).K (.ref D) (.ref 61) = some b3)
    (k4 : kitOne (pgo prog w p loose mean mg mb).K (.ref D) (.ref 73) = some b4) (k5 : kitOne (pgo prog w p loose mean mg mb).K (.ref D) (.ref 85) = some b5) (k6 : kitOne (pgo prog w p loose mean mg mb).K (.ref D) (.ref 24) = some true) (k7 : kitOne (pgo prog w p loose mean mg mb).K (.ref D) (.type "ValueError") = some true)
    (h1 : decide ((0 : Int) + (if b1 = true then 1 else 0) + (if b2 = true then 1 else 0) + (if b3 = true then 1 else 0) + (if b4 = true then 1 else 0) + (if b5 = true then 1 else 0) = 1) = true) (h : Q (.bool true) hp) : CallOK (pgo prog w p loose mean mg mb) (lev + 1) qt ns 197 [.ref i] hp X Q := by
  refine fn_run (xs := ["_law_error"]) (fnAt_of rfl (by kernel_rfl) (fn1 fun _ => rfl) (by decide) (by decide) rfl rfl rfl) rfl (by decide +kernel) fun c hc => ?_
  repeat' (first | walk_at "vc" | refine isi_exn (by walk_at "cx") e f (by assumption) ?_)
  rw [h1]
  repeat' (first | walk_at "vc" | refine isi_exn (by walk_at "cx") e f (by assumption) ?_)
  exact h

theorem need_hill_ok {X : Value → List O → Prop} {Q : V → List O → Prop} {hp : List O} {i : Nat} {xs : List Int} {v : V} (hi : hp[i]? = some (.list (xs.map .int))) (hl : xs.length < 2 ^ 62) (hv : Plain hp v)
    (hg : ∀ a, v = .int a → 0 ≤ a → a < xs.length → Q .none hp) (hb : (∀ a, v = .int a → 0 ≤ a → a < xs.length → False) → X (.ref 49) hp) : CallOK (pgo prog w p loose mean mg mb) (lev + 1) true ns 108 [.ref i, v] hp X Q := by
  refine fn_run (xs := ["land", "a"]) (fnAt_of rfl (by kernel_rfl) (fn2 fun _ _ => rfl) (by decide) (by decide) rfl rfl rfl) rfl (by decide +kernel) fun c hc => ?_
  refine ss_if ?_
  cases v with
  | int a =>
    repeat' walk_at "vc"
    refine if_decide (fun q => ?_) (fun q => ?_)
    · repeat' walk_at "vc"
      exact hb fun b e h0 h1 => by cases e; omega
    repeat' walk_at "vc"
    · exact ⟨hl⟩
    refine if_decide (fun q => ?_) (fun q => ?_)
    · repeat' walk_at "vc"
      exact hb fun b e h0 h1 => by cases e; omega
    repeat' walk_at "vc"
    exact hg a rfl (by omega) (by omega)
  | ref j =>
    obtain ⟨ys, hj⟩ := hv
    repeat' walk_at "vc"
    exact hb fun b e h0 h1 => by cases e
  | scr => exact hv.elim
  | glob _ => exact hv.elim
  | _ =>
    repeat' walk_at "vc"
    exact hb fun b e h0 h1 => by cases e

def topV (f : Int → Int) (a : Int) : Option Int → V
  | none => .none
  | some q => .tup [.int (f q - f a), .int (q - a)]
theorem lat_succ (f : Int → Int) (a : Int) (k : Nat) : lat f a (k + 1) = match (lat f a k).getLast? with | none => lat f a k ++ [a + 1 + k] | some q => if Bl f a q (a + 1 + k) then lat f a k ++ [a + 1 + k] else lat f a k := rfl
theorem lat_len (f : Int → Int) (a : Int) : ∀ k : Nat, (lat f a k).length ≤ k
  | 0 => Nat.le_refl _
  | k + 1 => by
    have := lat_len f a k
    rw [lat_succ]
    split
    · simp; omega
    · split <;> simp <;> omega
theorem set_new {hp : List O} {a b : O} : (hp ++ [a]).set hp.length b = hp ++ [b] := by simp
theorem map_app (xs : List Int) (x : Int) : xs.map V.int ++ [.int x] = (xs ++ [x]).map V.int := by simp
theorem seen_later_ok {X : Value → List O → Prop} {Q : V → List O → Prop} {hp : List O} {i : Nat} {xs : List Int} {a : Int} (hx : hp[i]? = some (.list (xs.map .int))) (s : Side (0 ≤ a ∧ a < xs.length ∧ xs.length < 2 ^ 20)) (h : Q (.ref hp.length) (hp ++ [.list ((lat (g xs) a (xs.length - 1 - a).toNat).map .int)])) : CallOK (pgo prog w p loose mean mg mb) (lev + 2) true ns 115 [.ref i, .int a] hp X Q := by
  refine fn_run (xs := ["land", "a"]) (fnAt_of rfl (by kernel_rfl) (fn2 fun _ _ => rfl) (by decide) (by decide) rfl rfl rfl) rfl (by decide +kernel) fun c hc => ?_
  have s' := s.h
  repeat' walk_at "vc"
  refine ss_cut (fun l hp' => hp' = hp ++ [.list ((lat (g xs) a (xs.length - 1 - a).toNat).map .int)] ∧ l "found" = some (.ref hp.length)) ?_ ?_
  · refine s_for1 (by walk_at "cx") (by kernel_rfl) rfl ?_
    refine i_range (by walk_at "cx") gl_range (by kernel_rfl) rfl ?_
    repeat' walk_at "vc"
    all_goals try walk_at "side"
    refine ⟨fun k l hp' => hp' = hp ++ [.list ((lat (g xs) a k).map .int)] ∧ l "found" = some (.ref hp.length) ∧ l "top" = some (topV (g xs) a (lat (g xs) a k).getLast?) ∧ l "land" = some (.ref i) ∧ l "a" = some (.int a), ⟨rfl, by walk_at "nm", by rw [show topV (g xs) a (lat (g xs) a 0).getLast? = V.none from rfl]; walk_at "nm", by walk_at "nm", by walk_at "nm"⟩, fun _ _ _ _ => trivial, ?_, ?_⟩
    · rintro k hk l hp' ⟨rfl, g1, g2, g3, g4⟩
      rw [rngItems_get]
      rw [rngItems_length] at hk
      have lo := lat_ok (g xs) a k
      have ll := lat_len (g xs) a k
      have le := lat_succ (g xs) a k
      have hxa : (hp ++ [O.list ((lat (g xs) a k).map V.int)])[i]? = some (.list (xs.map .int)) := app_get hx
      have sl : Side (0 ≤ a ∧ a < xs.length ∧ 0 ≤ a + 1 + (k : Int) ∧ a + 1 + (k : Int) < xs.length ∧ xs.length < 2 ^ 62) := ⟨by omega⟩
      have sa : Side (((lat (g xs) a k).map V.int).length ≤ sizeLine) := ⟨by rw [List.length_map, sizeLine_eq]; omega⟩
      repeat' (first | walk_at "vc" | refine slope_ok hxa sl ?_)
      refine ss_if ?_
      rcases lo with ⟨e, rfl⟩ | ⟨q, e, h1, h2, h3⟩
      · rw [e] at g2 le ⊢
        dsimp only [List.getLast?_nil] at g2 le
        have g2' : l "top" = some V.none := g2
        repeat' walk_at "vc"
        · exact ⟨by rw [sizeLine_eq]; decide⟩
        refine ⟨?_, by walk_at "nm", ?_, by walk_at "nm", by walk_at "nm"⟩
        · rw [le, set_new]; rfl
        · rw [le, List.nil_append, List.getLast?_singleton]
          show _ = some (V.tup [.int (g xs (a + 1 + ((0 : Nat) : Int)) - g xs a), .int (a + 1 + ((0 : Nat) : Int) - a)])
          walk_at "nm"
      · rw [e] at g2 le
        dsimp only at le
        have g2' : l "top" = some (V.tup [.int (g xs q - g xs a), .int (q - a)]) := g2
        have st : Side ((a + 1 + (k : Int) - a).natAbs < 2 ^ 64 ∧ (q - a).natAbs < 2 ^ 64) := ⟨by omega⟩
        repeat' (first | walk_at "vc" | refine steeper_ok st ?_)
        refine if_decide (fun z => ?_) (fun z => ?_)
        · rw [if_pos z] at le
          repeat' walk_at "vc"
          · exact sa
          refine ⟨?_, by walk_at "nm", ?_, by walk_at "nm", by walk_at "nm"⟩
          · rw [le, set_new, map_app]
          · rw [le, List.getLast?_concat]
            show _ = some (V.tup _)
            walk_at "nm"
        · rw [if_neg z] at le
          repeat' walk_at "vc"
          refine ⟨by rw [le], by walk_at "nm", ?_, by walk_at "nm", by walk_at "nm"⟩
          rw [le, e]
          show _ = some (V.tup _)
          walk_at "nm"
    · rintro l hp' ⟨rfl, g1, g2, g3, g4⟩
      rw [rngItems_length]
      refine ⟨rfl, ?_, g1⟩
      congr 6
      omega
  rintro l hp' ⟨rfl, g1⟩
  repeat' walk_at "vc"
  exact h

theorem sights_ok {X : Value → List O → Prop} {Q : V → List O → Prop} {hp : List O} {i : Nat} {xs : List Int} (hx : hp[i]? = some (.list (xs.map .int))) (s : Side (xs.length ≤ 256))
    (h : ∀ hp', Keep hp hp' → hp'[hp.length]? = some (.list ((sg (g xs) xs.length).map pV)) → Q (.ref hp.length) hp') : CallOK (pgo prog w p loose mean mg mb) (lev + 3) true ns 122 [.ref i] hp X Q := by
  refine fn_run (xs := ["land"]) (fnAt_of rfl (by kernel_rfl) (fn1 fun _ => rfl) (by decide) (by decide) rfl rfl rfl) rfl (by decide +kernel) fun c hc => ?_
  have s' := s.h
  have sx : Side (xs.length < 2 ^ 62) := ⟨by omega⟩
  repeat' walk_at "vc"
  have hk0 : Keep hp (hp ++ [O.list []]) := Keep.refl.app
  have hf0 : (hp ++ [O.list []])[hp.length]? = some (.list ((sgN (g xs) xs.length 0).map pV)) := app_new
  have hiF : i < hp.length := get_lt hx
  generalize hp ++ [O.list []] = hp₁ at hk0 hf0 ⊢
  generalize hFe : hp.length = F at h hf0 hiF ⊢
  have hFl : hp.length ≤ F := by omega
  refine ss_cut (fun l hp' => Keep hp hp' ∧ hp'[F]? = some (.list ((sg (g xs) xs.length).map pV)) ∧ l "found" = some (.ref F)) ?_ ?_
  · refine s_for1 (by walk_at "cx") (by kernel_rfl) rfl ?_
    refine i_range (by walk_at "cx") gl_range (by kernel_rfl) rfl ?_
    have hx1 := hk0 _ _ hx
    repeat' walk_at "vc"
    · exact sx
    · exact ⟨by omega⟩
    refine ⟨fun k l hp' => Keep hp hp' ∧ hp'[F]? = some (.list ((sgN (g xs) xs.length k).map pV)) ∧ l "found" = some (.ref F) ∧ l "land" = some (.ref i), ⟨hk0, hf0, by walk_at "nm", by walk_at "nm"⟩, fun _ _ _ _ => trivial, ?_, ?_⟩
    rotate_left
    · rintro l hp' ⟨h1, h2, h3, h4⟩
      rw [rngItems_length, show ((xs.length : Int)).toNat = xs.length by omega] at h2
      exact ⟨rfl, h1, h2, h3⟩
    clear hx1 hk0 hf0 hp₁
    rintro k hk l hp₁ ⟨hK, hf, g1, g2⟩
    rw [rngItems_get, Int.zero_add]
    rw [rngItems_length] at hk
    have hkn : k < xs.length := by omega
    have hsl := sgN_len (g xs) xs.length k (by omega)
    have hll := lat_len (g xs) k (xs.length - 1 - k)
    have hxk : k * xs.length ≤ 256 * 256 := Nat.mul_le_mul (by omega) s'
    have esg : sgN (g xs) xs.length (k + 1) = sgN (g xs) xs.length k ++ (lat (g xs) k (xs.length - 1 - k)).map fun b => ((k : Int), b) := rfl
    refine ss_cons ?_
    refine s_for1 (by walk_at "cx") (by kernel_rfl) rfl ?_
    refine i_val ?_
    repeat' walk_at "vc"
    refine seen_later_ok (hK _ _ hx) ⟨by omega⟩ ?_
    rw [show ((xs.length : Int) - 1 - (k : Int)).toNat = xs.length - 1 - k by omega]
    have hd' := app_new (hp := hp₁) (o := O.list ((lat (g xs) k (xs.length - 1 - k)).map .int))
    have hf' := app_get (t := [O.list ((lat (g xs) k (xs.length - 1 - k)).map .int)]) hf
    have hK' : Keep hp (hp₁ ++ [O.list ((lat (g xs) k (xs.length - 1 - k)).map .int)]) := hK.app
    have hFD : F < hp₁.length := get_lt hf
    generalize hp₁ ++ [O.list ((lat (g xs) k (xs.length - 1 - k)).map .int)] = hp₂ at hd' hf' hK' ⊢
    generalize hp₁.length = D at hd' hFD ⊢
    clear hK hf hp₁
    generalize lat (g xs) k (xs.length - 1 - k) = la at hll esg hd' ⊢
    refine srv_ref (by walk_at "cx") hd' ?_
    refine ⟨fun m l hp' => Keep hp hp' ∧ hp'[D]? = some (.list (la.map .int)) ∧ hp'[F]? = some (.list ((sgN (g xs) xs.length k ++ (la.take m).map fun b => ((k : Int), b)).map pV)) ∧ l "found" = some (.ref F) ∧ l "land" = some (.ref i) ∧ l "a" = some (.int k), ⟨hK', hd', by simpa using hf', by walk_at "nm", by walk_at "nm", by walk_at "nm"⟩, fun _ _ _ h => h.2.1, ?_, ?_⟩
    rotate_left
    · rintro l hp' ⟨h1, h2, h3, h4, h5, h6⟩
      rw [List.length_map, List.take_length, ← esg] at h3
      repeat' walk_at "vc"
      exact ⟨h1, h3, by walk_at "nm", by walk_at "nm"⟩
    clear g1 g2 hd' hf' hK' hp₂ l
    rintro m hm l hp₁ ⟨hK, hd, hf, g1, g2, g3⟩
    rw [List.length_map] at hm
    rw [List.getElem_map]
    have tk := List.take_add_one (l := la) (i := m)
    rw [List.getElem?_eq_getElem hm] at tk
    have sa : Side (((sgN (g xs) xs.length k ++ (la.take m).map fun b => ((k : Int), b)).map pV).length ≤ sizeLine) := ⟨by rw [List.length_map, List.length_append, List.length_map, List.length_take, sizeLine_eq]; omega⟩
    generalize la[m] = b at tk ⊢
    repeat' walk_at "vc"
    · exact sa
    refine ⟨hK.set hFl, set_get hd (by omega), ?_, by walk_at "nm", by walk_at "nm", by walk_at "nm"⟩
    rw [set_at hf, tk, show V.tup [V.int k, V.int b] = pV ((k : Int), b) from rfl, map_appP, Option.toList_some, List.append_assoc, ← List.map_singleton (f := fun b => ((k : Int), b)), ← List.map_append]
  rintro l hp' ⟨hK, hf, g1⟩
  repeat' walk_at "vc"
  exact h hp' hK hf

def hgt : V → Bool
  | .int a => decide (-1000000000000000000 ≤ a) && decide (a ≤ 1000000000000000000)
  | _ => false
theorem is_height_ok {X : Value → List O → Prop} {Q : V → List O → Prop} {hp : List O} {v : V} {qt : Bool} (hv : Plain hp v) (h : Q (.bool (hgt v)) hp) : CallOK (pgo prog w p loose mean mg mb) (lev + 1) qt ns 129 [v] hp X Q := by
  refine fn_run (xs := ["thing"]) (fnAt_of rfl (by kernel_rfl) (fn1 fun _ => rfl) (by decide) (by decide) rfl rfl rfl) rfl (by decide +kernel) fun c hc => ?_
  refine ss_if ?_
  cases v with
  | int a =>
    repeat' walk_at "vc"
    refine if_decide (fun q => ?_) (fun q => ?_)
    · repeat' walk_at "vc"
      have e : hgt (.int a) = decide (a ≤ 1000000000000000000) := by
        show (decide (-1000000000000000000 ≤ a) && _) = _
        rw [decide_eq_true q, Bool.true_and]
      rw [e] at h
      exact h
    · have e : hgt (.int a) = decide (-1000000000000000000 ≤ a) := by
        show (decide (-1000000000000000000 ≤ a) && _) = _
        rw [decide_eq_false q, Bool.false_and]
      rw [e] at h
      exact h
  | ref j =>
    obtain ⟨ys, hj⟩ := hv
    repeat' walk_at "vc"
    exact h
  | scr => exact hv.elim
  | glob _ => exact hv.elim
  | _ =>
    repeat' walk_at "vc"
    exact h

def goodL (vs : List V) : Bool := decide (1 ≤ vs.length) && decide (vs.length ≤ 200) && vs.all hgt
theorem checked_list {X : Value → List O → Prop} {Q : V → List O → Prop} {hp : List O} {i : Nat} {vs : List V} (hi : hp[i]? = some (.list vs)) (hpl : ∀ v ∈ vs, Plain hp v) (hl : vs.length < 2 ^ 20)
    (hg : goodL vs = true → Q (.ref hp.length) (hp ++ [.list vs])) (hb : goodL vs = false → X (.ref 37) hp) : CallOK (pgo prog w p loose mean mg mb) (lev + 2) true ns 136 [.ref i] hp X Q := by
  refine fn_run (xs := ["land"]) (fnAt_of rfl (by kernel_rfl) (fn1 fun _ => rfl) (by decide) (by decide) rfl rfl rfl) rfl (by decide +kernel) fun c hc => ?_
  have s63 : Side (vs.length < 2 ^ 63) := ⟨by omega⟩
  have ssz : Side (vs.length ≤ sizeLine) := ⟨by rw [sizeLine_eq]; omega⟩
  refine ss_if ?_
  repeat' (first | walk_at "vc" | refine cb_len_ref hi s63 ?_)
  refine if_decide (fun q => ?_) (fun q1 => ?_)
  · repeat' walk_at "vc"
    exact hb (by unfold goodL; rw [decide_eq_false (by omega), Bool.false_and, Bool.false_and])
  repeat' (first | walk_at "vc" | refine cb_len_ref hi s63 ?_)
  refine if_decide (fun q => ?_) (fun q2 => ?_)
  · repeat' walk_at "vc"
    exact hb (by unfold goodL; rw [decide_eq_false (p := vs.length ≤ 200) (by omega), Bool.and_false, Bool.false_and])
  repeat' walk_at "vc"
  refine ss_cut (fun l hp' => hp' = hp ∧ l "land" = some (.ref i) ∧ vs.all hgt = true) ?_ ?_
  · refine s_for1 (by walk_at "cx") (by kernel_rfl) rfl ?_
    refine i_val ?_
    repeat' walk_at "vc"
    refine srv_ref (by walk_at "cx") hi ?_
    refine ⟨fun k l hp' => hp' = hp ∧ l "land" = some (.ref i) ∧ ∀ (j : Nat) (hj : j < vs.length), j < k → hgt vs[j] = true, ⟨rfl, by walk_at "nm", fun j hj q => absurd q (Nat.not_lt_zero _)⟩, fun k l hp' e => e.1 ▸ hi, ?_, ?_⟩
    · rintro k hk l hp' ⟨e, g1, g2⟩
      subst e
      refine ss_if ?_
      repeat' walk_at "vc"
      refine is_height_ok (hpl _ (List.getElem_mem hk)) ?_
      repeat' walk_at "vc"
      refine if_b (fun q => ?_) (fun q => ?_)
      · repeat' walk_at "vc"
        have q' : hgt vs[k] = false := by simpa using q
        exact hb (by
          have : vs.all hgt = false := List.all_eq_false.mpr ⟨vs[k], List.getElem_mem hk, by rw [q']; decide⟩
          unfold goodL
          rw [this, Bool.and_false])
      · repeat' walk_at "vc"
        have q' : hgt vs[k] = true := by simpa using q
        exact ⟨rfl, by walk_at "nm", fun j hj z => if w' : j = k then by subst w'; exact q' else g2 j hj (by omega)⟩
    · rintro l hp' ⟨e, g1, g2⟩
      refine ⟨rfl, e, g1, List.all_eq_true.mpr fun x hx => ?_⟩
      obtain ⟨j, hj, rfl⟩ := List.getElem_of_mem hx
      exact g2 j hj hj
  rintro l hp' ⟨e, g1, g2⟩
  subst e
  repeat' walk_at "vc"
  · exact ssz
  exact hg (by unfold goodL; rw [g2, decide_eq_true (p := 1 ≤ vs.length) (by omega), decide_eq_true (p := vs.length ≤ 200) (by omega)]; rfl)
theorem plain_app {hp t : List O} {v : V} (h : Plain hp v) : Plain (hp ++ t) v := by
  cases v <;> first | exact h | exact ⟨h.choose, app_get h.choose_spec⟩
theorem att_heights : AttOk (pgo prog w p loose mean mg mb).K 186 "heights" := ⟨by kernel_rfl, by kernel_rfl, by kernel_rfl, by kernel_rfl, by kernel_rfl, by kernel_rfl⟩
theorem att_lifts : AttOk (pgo prog w p loose mean mg mb).K 186 "lifts" := ⟨by kernel_rfl, by kernel_rfl, by kernel_rfl, by kernel_rfl, by kernel_rfl, by kernel_rfl⟩
abbrev landAt (C : Addr) (hp : List O) (vs : List V) : List O := [O.att [(Str.ofString "heights", .ref (hp.length + 2)), (Str.ofString "lifts", .ref (hp.length + 3))], O.inst C hp.length, O.list vs, O.list []]
theorem land_good {X : Value → List O → Prop} {Q : V → List O → Prop} {hp : List O} {i : Nat} {vs : List V} (hi : hp[i]? = some (.list vs)) (hpl : ∀ v ∈ vs, Plain hp v) (hl : vs.length < 2 ^ 20) (hg : goodL vs = true) (h : Q (.ref (hp.length + 1)) (hp ++ landAt 186 hp vs)) : CallOK (pgo prog w p loose mean mg mb) (lev + 4) true ns 186 [.ref i] hp X Q := by
  refine callOK_class (fI := 150) (by kernel_rfl) (by kernel_rfl) (by kernel_rfl) ?_
  refine fn_run (xs := ["self", "heights"]) (fnAt_of rfl (by kernel_rfl) (fn2 fun _ _ => rfl) (by decide) (by decide) rfl rfl rfl) rfl (by decide +kernel) fun c hc => ?_
  repeat' walk_at "vc"
  refine checked_list (app_get (app_get hi)) (fun v hv => plain_app (plain_app (hpl v hv))) hl (fun _ => ?_) (fun q => by rw [hg] at q; cases q)
  repeat' walk_at "vc"
  refine at_s (i := hp.length + 1) (j := hp.length) (es := []) (by simp) (by simp) rfl (by decide) att_heights ?_
  repeat' walk_at "vc"
  refine at_s (i := hp.length + 1) (j := hp.length) (es := [(Str.ofString "heights", .ref (hp.length + 2))]) (by simp) (by simp) rfl (by simp) att_lifts ?_
  repeat' walk_at "vc"
  refine ⟨rfl, ?_⟩
  refine Eq.mp (congrArg (Q _) ?_) h
  simp [landAt]
theorem mth_told : MthOk (pgo prog w p loose mean mg mb).K 186 "told" 157 := ⟨by kernel_rfl, by kernel_rfl, by kernel_rfl, by kernel_rfl⟩
theorem told_ok {X : Value → List O → Prop} {Q : V → List O → Prop} {hp : List O} {i j k : Nat} {es : List (Str × V)} {vs : List V} (h1 : hp[i]? = some (.inst 186 j)) (h2 : hp[j]? = some (.att es)) (h3 : es.lookup (Str.ofString "heights") = some (.ref k)) (h4 : hp[k]? = some (.list vs)) (hl : Side (vs.length ≤ sizeLine)) (h : Q (.ref hp.length) (hp ++ [.list vs])) : CallOK (pgo prog w p loose mean mg mb) (lev + 1) true ns 157 [.ref i] hp X Q := by
  refine fn_run (xs := ["self"]) (fnAt_of rfl (by kernel_rfl) (fn1 fun _ => rfl) (by decide) (by decide) rfl rfl rfl) rfl (by decide +kernel) fun c hc => ?_
  repeat' walk_at "vc"
  refine at_g h1 h2 h3 att_heights ?_
  repeat' walk_at "vc"
  · exact hl
  exact h

theorem good_ints {zs : List Int} (h1 : 1 ≤ zs.length) (h2 : zs.length ≤ 200) (h : ∀ z ∈ zs, -1000000000000000000 ≤ z ∧ z ≤ 1000000000000000000) : goodL (zs.map .int) = true := by
  unfold goodL
  rw [List.length_map, decide_eq_true h1, decide_eq_true h2, Bool.true_and, Bool.true_and, List.all_eq_true]
  intro v hv
  obtain ⟨z, hz, rfl⟩ := List.mem_map.mp hv
  show (decide _ && decide _) = true
  rw [decide_eq_true (h z hz).1, decide_eq_true (h z hz).2]
  rfl
theorem plain_ints {zs : List Int} {hp : List O} : ∀ v ∈ zs.map V.int, Plain hp v := by
  intro v hv
  obtain ⟨z, _, rfl⟩ := List.mem_map.mp hv
  exact trivial

def riseV (f : Int → Int) (a : Int) : Option Int → V
  | none => .none
  | some q => .int (f q - f a)
def runI (a : Int) : Option Int → Int
  | none => 1
  | some q => q - a
theorem sights_by_ok {X : Value → List O → Prop} {Q : V → List O → Prop} {hp : List O} {i : Nat} {xs : List Int} (hx : hp[i]? = some (.list (xs.map .int))) (s : Side (xs.length ≤ 256)) (h : Q (.ref hp.length) (hp ++ [.list ((sgl xs).map pV)])) : CallOK (pgo prog w p loose mean mg mb) (lev + 1) true ns 218 [.ref i] hp X Q := by
  refine fn_run (xs := ["_law_land"]) (fnAt_of rfl (by kernel_rfl) (fn1 fun _ => rfl) (by decide) (by decide) rfl rfl rfl) rfl (by decide +kernel) fun c hc => ?_
  have s' := s.h
  have sx : Side (xs.length < 2 ^ 62) := ⟨by omega⟩
  repeat' walk_at "vc"
  refine ss_cut (fun l hp' => hp' = hp ++ [.list ((sgl xs).map pV)] ∧ l "_law_found" = some (.ref hp.length)) ?_ ?_
  · refine s_for1 (by walk_at "cx") (by kernel_rfl) rfl ?_
    refine i_range (by walk_at "cx") gl_range (by kernel_rfl) rfl ?_
    repeat' walk_at "vc"
    · exact sx
    · exact ⟨by omega⟩
    refine ⟨fun k l hp' => hp' = hp ++ [.list ((sgN (g xs) xs.length k).map pV)] ∧ l "_law_found" = some (.ref hp.length) ∧ l "_law_land" = some (.ref i), ⟨rfl, by walk_at "nm", by walk_at "nm"⟩, fun _ _ _ _ => trivial, ?_, ?_⟩
    rotate_left
    · rintro l hp' ⟨rfl, g1, g2⟩
      rw [rngItems_length, show ((xs.length : Int)).toNat = xs.length by omega]
      exact ⟨rfl, rfl, g1⟩
    rintro k hk l hp' ⟨rfl, g1, g2⟩
    rw [rngItems_get, Int.zero_add]
    rw [rngItems_length] at hk
    have hkn : k < xs.length := by omega
    have hsl := sgN_len (g xs) xs.length k (by omega)
    have hxk : k * xs.length ≤ 256 * 256 := Nat.mul_le_mul (by omega) s'
    have esg : sgN (g xs) xs.length (k + 1) = sgN (g xs) xs.length k ++ (lat (g xs) k (xs.length - 1 - k)).map fun b => ((k : Int), b) := rfl
    generalize sgN (g xs) xs.length k = S0 at hsl esg ⊢
    repeat' walk_at "vc"
    refine ss_cons ?_
    refine s_for1 (by walk_at "cx") (by kernel_rfl) rfl ?_
    refine i_range (by walk_at "cx") gl_range (by kernel_rfl) rfl ?_
    repeat' walk_at "vc"
    · exact sx
    · exact ⟨by omega⟩
    refine ⟨fun m l hp' => hp' = hp ++ [.list ((S0 ++ (lat (g xs) k m).map fun b => ((k : Int), b)).map pV)] ∧ l "_law_found" = some (.ref hp.length) ∧ l "_law_land" = some (.ref i) ∧ l "_law_low" = some (.int k) ∧ l "_law_rise" = some (riseV (g xs) k (lat (g xs) k m).getLast?) ∧ l "_law_run" = some (.int (runI k (lat (g xs) k m).getLast?)), ⟨by rw [show lat (g xs) k 0 = [] from rfl, List.map_nil, List.append_nil], by walk_at "nm", by walk_at "nm", by walk_at "nm", by rw [show riseV (g xs) k (lat (g xs) k 0).getLast? = V.none from rfl]; walk_at "nm", by rw [show runI k (lat (g xs) k 0).getLast? = 1 from rfl]; walk_at "nm"⟩, fun _ _ _ _ => trivial, ?_, ?_⟩
    rotate_left
    · rintro l hp' ⟨rfl, g1, g2, _⟩
      rw [rngItems_length, show ((xs.length : Int) - ((k : Int) + 1)).toNat = xs.length - 1 - k by omega, ← esg]
      repeat' walk_at "vc"
      exact ⟨rfl, g1, g2⟩
    clear g1 g2 l
    rintro m hm l hp' ⟨rfl, g1, g2, g3, g4, g5⟩
    rw [rngItems_get]
    rw [rngItems_length] at hm
    have lo := lat_ok (g xs) k m
    have ll := lat_len (g xs) k m
    have le := lat_succ (g xs) k m
    have hxa : (hp ++ [O.list ((S0 ++ (lat (g xs) k m).map fun b => ((k : Int), b)).map pV)])[i]? = some (.list (xs.map .int)) := app_get hx
    have sa : Side (((S0 ++ (lat (g xs) k m).map fun b => ((k : Int), b)).map pV).length ≤ sizeLine) := ⟨by rw [List.length_map, List.length_append, List.length_map, sizeLine_eq]; omega⟩
    repeat' walk_at "vc"
    · exact ⟨by omega⟩
    · exact ⟨by omega⟩
    refine ss_if ?_
    have fin : ∀ (L : List Int) (q : Int), pV ((k : Int), q) = V.tup [.int k, .int q] := fun _ _ => rfl
    rcases lo with ⟨e, rfl⟩ | ⟨q, e, h1, h2, h3⟩
    · rw [e] at g4 g5 le ⊢
      dsimp only [List.getLast?_nil] at g4 g5 le
      have g4' : l "_law_rise" = some V.none := g4
      repeat' walk_at "vc"
      · rw [e] at sa; exact sa
      refine ⟨?_, by walk_at "nm", by walk_at "nm", by walk_at "nm", ?_, ?_⟩
      · rw [le, set_new]; simp [pV]
      · rw [le, List.nil_append, List.getLast?_singleton]
        show _ = some (V.int _)
        walk_at "nm"
      · rw [le, List.nil_append, List.getLast?_singleton]
        show _ = some (V.int ((k : Int) + 1 + ((0 : Nat) : Int) - k))
        walk_at "nm"
    · rw [e] at g4 g5 le
      dsimp only at le
      have g4' : l "_law_rise" = some (.int (g xs q - g xs k)) := g4
      have g5' : l "_law_run" = some (.int (q - k)) := g5
      clear g4 g5
      repeat' walk_at "vc"
      · exact ⟨.inr (by omega)⟩
      · exact ⟨.inr (by omega)⟩
      refine if_decide (fun z => ?_) (fun z => ?_)
      · rw [if_pos z] at le
        repeat' walk_at "vc"
        · exact sa
        refine ⟨?_, by walk_at "nm", by walk_at "nm", by walk_at "nm", ?_, ?_⟩
        · rw [le, set_new]; simp [pV]
        · rw [le, List.getLast?_concat]
          show _ = some (V.int _)
          walk_at "nm"
        · rw [le, List.getLast?_concat]
          show _ = some (V.int ((k : Int) + 1 + (m : Int) - k))
          walk_at "nm"
      · rw [if_neg z] at le
        repeat' walk_at "vc"
        refine ⟨by rw [le], by walk_at "nm", by walk_at "nm", by walk_at "nm", ?_, ?_⟩
        · rw [le, e]
          show _ = some (V.int _)
          walk_at "nm"
        · rw [le, e]
          show _ = some (V.int (q - k))
          walk_at "nm"
  rintro l hp' ⟨rfl, g1⟩
  repeat' walk_at "vc"
  exact h

theorem lacking_ok {X : Value → List O → Prop} {Q : V → List O → Prop} {hp : List O} {i j : Nat} {ps qs : List (Int × Int)} (hi : hp[i]? = some (.list (ps.map pV))) (hj : hp[j]? = some (.list (qs.map pV))) (s : Side (ps.length ≤ 65536 ∧ qs.length ≤ 65536))
    (h : ∀ hp' r, Keep hp hp' → hp.length ≤ r → hp'[r]? = some (.list ((lack ps qs).map pV)) → Q (.ref r) hp') : CallOK (pgo prog w p loose mean mg mb) (lev + 1) true ns 244 [.ref i, .ref j] hp X Q := by
  refine fn_run (xs := ["_law_pairs", "_law_others"]) (fnAt_of rfl (by kernel_rfl) (fn2 fun _ _ => rfl) (by decide) (by decide) rfl rfl rfl) rfl (by decide +kernel) fun c hc => ?_
  have s' := s.h
  repeat' walk_at "vc"
  refine ss_cons (s_fill (i := j) (T := hp.length) (ps := qs) (by walk_at "cx") (by kernel_rfl) (by walk_at "nm") (by walk_at "nm") (app_get hj) app_new ⟨by rw [sizeLine_eq]; omega⟩ rfl (fun l' hl => ?_))
  have g1 : l' "_law_pairs" = some (.ref i) := (hl _ rfl).trans (by walk_at "nm")
  have g2 : l' "_law_there" = some (.ref hp.length) := (hl _ rfl).trans (by walk_at "nm")
  rw [set_new]
  show Ss _ _ _ _ _ _
  repeat' walk_at "vc"
  refine i_val ?_
  repeat' walk_at "vc"
  refine srv_ref (by walk_at "cx") (app_get hi) ?_
  refine comp_filtP (by walk_at "cx") (by kernel_rfl) (fun p => !decide ([p.1, p.2] ∈ tabOf qs)) (by rw [List.length_map, sizeLine_eq]; omega) (fun _ => app_get (app_get hi)) ?_ ?_
  · rintro ⟨a, b⟩ hy vs
    refine ⟨_, tgt1, fun c' hc' => ?_⟩
    dsimp only [pV]
    repeat' (first | walk_at "vc" | refine cmp_nin2 (by walk_at "hp") ?_)
    refine ⟨rfl, rfl, ?_⟩
    repeat' walk_at "vc"
    exact ⟨rfl, rfl⟩
  rw [lack_eq]
  exact h _ _ Keep.refl.app.app (by simp) app_new

theorem mth_moved : MthOk (pgo prog w p loose mean mg mb).K 186 "moved" 169 := ⟨by kernel_rfl, by kernel_rfl, by kernel_rfl, by kernel_rfl⟩
theorem mth_lift : MthOk (pgo prog w p loose mean mg mb).K 186 "lift" 176 := ⟨by kernel_rfl, by kernel_rfl, by kernel_rfl, by kernel_rfl⟩
theorem mth_back : MthOk (pgo prog w p loose mean mg mb).K 186 "back" 183 := ⟨by kernel_rfl, by kernel_rfl, by kernel_rfl, by kernel_rfl⟩
theorem mth_seen : MthOk (pgo prog w p loose mean mg mb).K 186 "seen" 164 := ⟨by kernel_rfl, by kernel_rfl, by kernel_rfl, by kernel_rfl⟩
theorem seen_ok {X : Value → List O → Prop} {Q : V → List O → Prop} {hp : List O} {i j h t : Nat} {xs : List Int} {ds : List (Int × Int)} (L : LandIs hp 186 i j h t xs ds) (s : Side (xs.length ≤ 256)) (hk : ∀ hp', Keep hp hp' → hp'[hp.length]? = some (.list ((sgl xs).map pV)) → Q (.ref hp.length) hp') : CallOK (pgo prog w p loose mean mg mb) (lev + 4) true ns 164 [.ref i] hp X Q := by
  refine fn_run (xs := ["self"]) (fnAt_of rfl (by kernel_rfl) (fn1 fun _ => rfl) (by decide) (by decide) rfl rfl rfl) rfl (by decide +kernel) fun c hc => ?_
  repeat' walk_at "vc"
  refine at_g L.a L.b rfl att_heights ?_
  repeat' walk_at "vc"
  exact sights_ok L.c s hk
theorem moved_ok {X : Value → List O → Prop} {Q : V → List O → Prop} {hp : List O} {i j h t : Nat} {xs : List Int} {ds : List (Int × Int)} {pl by' : Int} (L : LandIs hp 186 i j h t xs ds) (s : Side (0 ≤ pl ∧ pl < xs.length ∧ xs.length ≤ 256))
    (hk : ∀ hp' a b, Chg [h] hp hp' → hp'[h]? = some (.list ((lift xs pl by').map .int)) → hp.length ≤ a → hp.length ≤ b → a ≠ b → hp'[a]? = some (.list ((lack (sgl (lift xs pl by')) (sgl xs)).map pV)) → hp'[b]? = some (.list ((lack (sgl xs) (sgl (lift xs pl by'))).map pV)) → Q (.tup [.ref a, .ref b]) hp') : CallOK (pgo prog w p loose mean mg mb) (lev + 4) true ns 169 [.ref i, .int pl, .int by'] hp X Q := by
  refine fn_run (xs := ["self", "place", "by"]) (fnAt_of rfl (by kernel_rfl) (fn3 fun _ _ _ => rfl) (by decide) (by decide) rfl rfl rfl) rfl (by decide +kernel) fun c hc => ?_
  have s' := s.h
  have sx : Side (0 ≤ pl ∧ pl < xs.length ∧ xs.length < 2 ^ 62) := ⟨by omega⟩
  repeat' walk_at "vc"
  refine at_g L.a L.b rfl att_heights ?_
  repeat' walk_at "vc"
  refine sights_ok L.c ⟨by omega⟩ (fun hp₁ k1 f1 => ?_)
  have L1 := L.keep k1
  have hh := get_lt L.c
  have c1 : Chg [h] hp hp₁ := k1.chg
  repeat' walk_at "vc"
  refine at_g L1.a L1.b rfl att_heights ?_
  repeat' walk_at "vc"
  refine sb_int L1.c sx ?_
  repeat' walk_at "vc"
  refine at_g L1.a L1.b rfl att_heights ?_
  repeat' walk_at "vc"
  refine st_ref L1.c ⟨s'.1, by rw [List.length_map]; exact s'.2.1, by omega⟩ ?_
  rw [← List.map_set, show xs.set pl.toNat (g xs pl + by') = lift xs pl by' from rfl]
  have hlen := lift_length xs pl by'
  have e2 : (hp₁.set h (O.list ((lift xs pl by').map V.int)))[h]? = _ := set_at L1.c
  have f2 : (hp₁.set h (O.list ((lift xs pl by').map V.int)))[hp.length]? = _ := set_get f1 (by omega)
  have c2 : Chg [h] hp (hp₁.set h (O.list ((lift xs pl by').map V.int))) := c1.set (.inl (by simp))
  have L2 : LandIs (hp₁.set h (O.list ((lift xs pl by').map V.int))) 186 i j h t (lift xs pl by') ds := L1.upd ((Chg.refl (M := [h, t])).set (.inl (by simp))) e2 (set_get L1.d L1.ne)
  have n2 : hp.length < (hp₁.set h (O.list ((lift xs pl by').map V.int))).length := get_lt f2
  generalize hp₁.set h (O.list ((lift xs pl by').map V.int)) = hp₂ at e2 f2 c2 L2 n2 ⊢
  clear L1 f1 c1 k1 hp₁
  generalize lift xs pl by' = ys at *
  repeat' walk_at "vc"
  refine at_g L2.a L2.b rfl att_heights ?_
  repeat' walk_at "vc"
  refine sights_ok L2.c ⟨by omega⟩ (fun hp₃ k3 f3 => ?_)
  have e3 := k3 _ _ e2
  have a3 := k3 _ _ f2
  have c3 : Chg [h] hp hp₃ := c2.trans k3.chg
  change hp₃[hp.length]? = some (.list ((sgl xs).map pV)) at a3
  change hp₃[hp₂.length]? = some (.list ((sgl ys).map pV)) at f3
  have z1 := sg_len (g xs) xs.length
  have z2 := sg_len (g ys) ys.length
  have z3 : xs.length * xs.length ≤ 256 * 256 := Nat.mul_le_mul s'.2.2 s'.2.2
  rw [hlen] at z2
  have z1' : (sgl xs).length ≤ 65536 := by unfold sgl; omega
  have z2' : (sgl ys).length ≤ 65536 := by unfold sgl; rw [hlen]; omega
  clear z1 z2 z3 L2 e2 f2 c2
  generalize sgl xs = ps at *
  generalize sgl ys = qs at *
  have n3 : hp.length ≤ hp₃.length := c3.len
  generalize hp₂.length = B at f3 n2 ⊢
  clear k3 hp₂
  have sp : Side (ps.length ≤ sizeLine) := ⟨by rw [sizeLine_eq]; omega⟩
  have sq : Side (qs.length ≤ sizeLine) := ⟨by rw [sizeLine_eq]; omega⟩
  repeat' walk_at "vc"
  refine ss_cons (s_fill (i := hp.length) (T := hp₃.length) (ps := ps) (by walk_at "cx") (by kernel_rfl) (by walk_at "nm") (by walk_at "nm") (app_get a3) app_new sp rfl (fun l₁ hl₁ => ?_))
  have g1 : l₁ "ahead" = some (.ref hp.length) := (hl₁ _ rfl).trans (by walk_at "nm")
  have g2 : l₁ "behind" = some (.ref B) := (hl₁ _ rfl).trans (by walk_at "nm")
  have g3 : l₁ "were" = some (.ref hp₃.length) := (hl₁ _ rfl).trans (by walk_at "nm")
  rw [set_new]
  clear hl₁
  show Ss _ _ _ _ _ _
  repeat' walk_at "vc"
  refine ss_cons (s_fill (i := B) (T := (hp₃ ++ [O.tab (tabOf ps)]).length) (ps := qs) (by walk_at "cx") (by kernel_rfl) (by walk_at "nm") (by walk_at "nm") (app_get (app_get f3)) app_new sq rfl (fun l₂ hl₂ => ?_))
  have m1 : l₂ "ahead" = some (.ref hp.length) := (hl₂ _ rfl).trans (by walk_at "nm")
  have m2 : l₂ "behind" = some (.ref B) := (hl₂ _ rfl).trans (by walk_at "nm")
  have m3 : l₂ "were" = some (.ref hp₃.length) := (hl₂ _ rfl).trans (by walk_at "nm")
  have m4 : l₂ "are" = some (.ref (hp₃ ++ [O.tab (tabOf ps)]).length) := (hl₂ _ rfl).trans (by walk_at "nm")
  rw [set_new]
  clear hl₂ g1 g2 g3
  have w1 : (hp₃ ++ [O.tab (tabOf ps)] ++ [O.tab (tabOf qs)])[hp₃.length]? = some (.tab (tabOf ps)) := app_get app_new
  have w2 : (hp₃ ++ [O.tab (tabOf ps)] ++ [O.tab (tabOf qs)])[(hp₃ ++ [O.tab (tabOf ps)]).length]? = some (.tab (tabOf qs)) := app_new
  have a4 : (hp₃ ++ [O.tab (tabOf ps)] ++ [O.tab (tabOf qs)])[hp.length]? = some (.list (ps.map pV)) := app_get (app_get a3)
  have b4 : (hp₃ ++ [O.tab (tabOf ps)] ++ [O.tab (tabOf qs)])[B]? = some (.list (qs.map pV)) := app_get (app_get f3)
  have e4 : (hp₃ ++ [O.tab (tabOf ps)] ++ [O.tab (tabOf qs)])[h]? = some (.list (ys.map .int)) := app_get (app_get e3)
  have c4 : Chg [h] hp (hp₃ ++ [O.tab (tabOf ps)] ++ [O.tab (tabOf qs)]) := c3.app.app
  generalize (hp₃ ++ [O.tab (tabOf ps)]).length = U at w2 m4 ⊢
  generalize hp₃.length = U' at w1 m3 ⊢
  generalize hp₃ ++ [O.tab (tabOf ps)] ++ [O.tab (tabOf qs)] = hp₄ at *
  clear c3 e3 a3 f3
  show Ss _ _ _ _ _ _
  repeat' walk_at "vc"
  refine i_val ?_
  repeat' walk_at "vc"
  refine srv_ref (by walk_at "cx") b4 ?_
  refine comp_filtP (by walk_at "cx") (by kernel_rfl) (fun p => !decide ([p.1, p.2] ∈ tabOf ps)) (by rw [List.length_map, sizeLine_eq]; omega) (fun _ => app_get b4) ?_ ?_
  · rintro ⟨a, b⟩ hy vs
    refine ⟨_, tgt1, fun c' hc' => ?_⟩
    dsimp only [pV]
    repeat' (first | walk_at "vc" | refine cmp_nin2 (by walk_at "hp") ?_)
    refine ⟨rfl, rfl, ?_⟩
    repeat' walk_at "vc"
    exact ⟨rfl, rfl⟩
  rw [lack_eq]
  show Ss _ _ _ _ _ _
  repeat' walk_at "vc"
  refine i_val ?_
  repeat' walk_at "vc"
  refine srv_ref (by walk_at "cx") (app_get a4) ?_
  refine comp_filtP (by walk_at "cx") (by kernel_rfl) (fun p => !decide ([p.1, p.2] ∈ tabOf qs)) (by rw [List.length_map, sizeLine_eq]; omega) (fun _ => app_get (app_get a4)) ?_ ?_
  · rintro ⟨a, b⟩ hy vs
    refine ⟨_, tgt1, fun c' hc' => ?_⟩
    dsimp only [pV]
    repeat' (first | walk_at "vc" | refine cmp_nin2 (by walk_at "hp") ?_)
    refine ⟨rfl, rfl, ?_⟩
    repeat' walk_at "vc"
    exact ⟨rfl, rfl⟩
  rw [lack_eq]
  show Ss _ _ _ _ _ _
  repeat' walk_at "vc"
  exact hk _ _ _ c4.app.app (app_get (app_get e4)) c4.len (by have := c4.len; rw [List.length_append]; omega) (by simp) (app_get app_new) app_new

theorem lift_ok {X : Value → List O → Prop} {Q : V → List O → Prop} {hp : List O} {i j h t : Nat} {xs : List Int} {ds : List (Int × Int)} {vp vb : V} (L : LandIs hp 186 i j h t xs ds) (s : Side (xs.length ≤ 256 ∧ ds.length ≤ 60000)) (p1 : Plain hp vp) (p2 : Plain hp vb)
    (h1 : dueOf xs vp vb = .nohill → X (.ref 49) hp) (h2 : dueOf xs vp vb = .high → X (.ref 73) hp)
    (h3 : ∀ a b, dueOf xs vp vb = .ok a b → ∀ hp' x y, Chg [h, t] hp hp' → LandIs hp' 186 i j h t (lift xs a b) (ds ++ [(a, b)]) → hp.length ≤ x → hp.length ≤ y → x ≠ y → hp'[x]? = some (.list ((lack (sgl (lift xs a b)) (sgl xs)).map pV)) → hp'[y]? = some (.list ((lack (sgl xs) (sgl (lift xs a b))).map pV)) → Q (.tup [.ref x, .ref y]) hp') : CallOK (pgo prog w p loose mean mg mb) (lev + 5) true ns 176 [.ref i, vp, vb] hp X Q := by
  refine fn_run (xs := ["self", "place", "by"]) (fnAt_of rfl (by kernel_rfl) (fn3 fun _ _ _ => rfl) (by decide) (by decide) rfl rfl rfl) rfl (by decide +kernel) fun c hc => ?_
  have s' := s.h
  repeat' walk_at "vc"
  refine at_g L.a L.b rfl att_heights ?_
  repeat' walk_at "vc"
  refine need_hill_ok L.c (by omega) p1 (fun a ea a0 a1 => ?_) (fun q => h1 (due_no q))
  subst ea
  have sx : Side (0 ≤ a ∧ a < xs.length ∧ xs.length < 2 ^ 62) := ⟨by omega⟩
  have Ld := L.d
  refine ss_if ?_
  cases vb with
  | int b =>
    repeat' walk_at "vc"
    refine at_g L.a L.b rfl att_heights ?_
    repeat' walk_at "vc"
    refine sb_int L.c sx ?_
    repeat' walk_at "vc"
    refine is_height_ok trivial ?_
    repeat' walk_at "vc"
    refine if_b (fun q => ?_) (fun q => ?_)
    · repeat' walk_at "vc"
      refine h2 (due_high a0 a1 fun b' e z1 z2 => ?_)
      cases e
      have : hgt (.int (g xs a + b)) = true := by
        show (decide _ && decide _) = true
        rw [decide_eq_true z1, decide_eq_true z2]; rfl
      rw [this] at q
      cases q
    have q' : hgt (.int (g xs a + b)) = true := by simpa using q
    have q2 : -1000000000000000000 ≤ g xs a + b ∧ g xs a + b ≤ 1000000000000000000 := by
      change (decide _ && decide _) = true at q'
      rw [Bool.and_eq_true, decide_eq_true_eq, decide_eq_true_eq] at q'
      exact q'
    repeat' walk_at "vc"
    refine at_g L.a L.b rfl att_lifts ?_
    repeat' walk_at "vc"
    · exact ⟨by rw [List.length_map, sizeLine_eq]; omega⟩
    rw [show V.tup [V.int a, V.int b] = pV (a, b) from rfl, map_appP]
    have c1 : Chg [h, t] hp (hp.set t (O.list ((ds ++ [(a, b)]).map pV))) := Chg.refl.set (.inl (by simp))
    have L1 : LandIs (hp.set t (O.list ((ds ++ [(a, b)]).map pV))) 186 i j h t xs (ds ++ [(a, b)]) := L.upd c1 (set_get L.c (Ne.symm L.ne)) (set_at L.d)
    have n1 : (hp.set t (O.list ((ds ++ [(a, b)]).map pV))).length = hp.length := List.length_set
    generalize hp.set t (O.list ((ds ++ [(a, b)]).map pV)) = hp₁ at c1 L1 n1 ⊢
    repeat' walk_at "vc"
    refine at_m L1.a L1.b rfl mth_moved ?_
    repeat' walk_at "vc"
    refine moved_ok L1 ⟨by omega⟩ (fun hp' x y k1 k2 k3 k4 k5 k6 k7 => ?_)
    exact h3 a b (due_ok a0 a1 q2.1 q2.2) hp' x y (c1.trans (k1.mono (by simp))) (L1.upd (k1.mono (by simp)) k2 (k1.keep _ _ (by simpa using Ne.symm L.ne) L1.d)) (by omega) (by omega) k5 k6 k7
  | ref r =>
    obtain ⟨zs, hr⟩ := p2
    repeat' walk_at "vc"
    exact h2 (due_high a0 a1 fun b' e => by cases e)
  | scr => exact p2.elim
  | glob _ => exact p2.elim
  | _ =>
    repeat' walk_at "vc"
    exact h2 (due_high a0 a1 fun b' e => by cases e)
theorem back_ok {X : Value → List O → Prop} {Q : V → List O → Prop} {hp : List O} {i j h t : Nat} {xs : List Int} {ds : List (Int × Int)} (L : LandIs hp 186 i j h t xs ds) (s : Side (xs.length ≤ 256 ∧ ds.length ≤ 60000)) (hm : ∀ p ∈ ds, 0 ≤ p.1 ∧ p.1 < xs.length)
    (h1 : ds = [] → X (.ref 85) hp)
    (h3 : ∀ ds' a b, ds = ds' ++ [(a, b)] → ∀ hp' x y, Chg [h, t] hp hp' → LandIs hp' 186 i j h t (lift xs a (-b)) ds' → hp.length ≤ x → hp.length ≤ y → x ≠ y → hp'[x]? = some (.list ((lack (sgl (lift xs a (-b))) (sgl xs)).map pV)) → hp'[y]? = some (.list ((lack (sgl xs) (sgl (lift xs a (-b)))).map pV)) → Q (.tup [.ref x, .ref y]) hp') : CallOK (pgo prog w p loose mean mg mb) (lev + 5) true ns 183 [.ref i] hp X Q := by
  refine fn_run (xs := ["self"]) (fnAt_of rfl (by kernel_rfl) (fn1 fun _ => rfl) (by decide) (by decide) rfl rfl rfl) rfl (by decide +kernel) fun c hc => ?_
  have s' := s.h
  have Ld := L.d
  have sl : Side ((ds.map pV).length < 2 ^ 63) := ⟨by rw [List.length_map]; omega⟩
  refine ss_if ?_
  repeat' walk_at "vc"
  refine at_g L.a L.b rfl att_lifts ?_
  repeat' (first | walk_at "vc" | refine cb_len_ref Ld sl ?_)
  refine if_decide (fun q => ?_) (fun q => ?_)
  · repeat' walk_at "vc"
    exact h1 (List.length_eq_zero_iff.mp (by rw [List.length_map] at q; omega))
  rcases snoc_cases ds with e | ⟨es, ⟨a, b⟩, rfl⟩
  · subst e
    exact absurd rfl q
  have ha := hm (a, b) (by simp)
  dsimp only at ha
  rw [List.map_append] at Ld
  change hp[t]? = some (.list (es.map pV ++ [V.tup [.int a, .int b]])) at Ld
  rw [List.length_append] at s'
  repeat' walk_at "vc"
  refine at_g L.a L.b rfl att_lifts ?_
  repeat' walk_at "vc"
  · exact ⟨by rw [List.length_map, sizeLine_eq]; omega⟩
  refine ⟨_, _, rfl, ?_⟩
  have c1 : Chg [h, t] hp (hp.set t (O.list (es.map pV))) := Chg.refl.set (.inl (by simp))
  have L1 : LandIs (hp.set t (O.list (es.map pV))) 186 i j h t xs es := L.upd c1 (set_get L.c (Ne.symm L.ne)) (set_at L.d)
  have n1 : (hp.set t (O.list (es.map pV))).length = hp.length := List.length_set
  generalize hp.set t (O.list (es.map pV)) = hp₁ at c1 L1 n1 ⊢
  show Ss _ _ _ _ _ _
  repeat' walk_at "vc"
  refine at_m L1.a L1.b rfl mth_moved ?_
  repeat' walk_at "vc"
  refine moved_ok L1 ⟨by omega⟩ (fun hp' x y k1 k2 k3 k4 k5 k6 k7 => ?_)
  exact h3 es a b rfl hp' x y (c1.trans (k1.mono (by simp))) (L1.upd (k1.mono (by simp)) k2 (k1.keep _ _ (by simpa using Ne.symm L.ne) L1.d)) (by omega) (by omega) k5 k6 k7

theorem base_ok {X : Value → List O → Prop} {Q : V → List O → Prop} {hp : List O} {i : Nat} {D : Addr} {qt : Bool} (e : hp[i]? = some (.exn D)) (hD : D = 49 ∨ D = 73 ∨ D = 85) (h : Q (.bool true) hp) : CallOK (pgo prog w p loose mean mg mb) (lev + 2) qt ns 225 [.ref i] hp X Q := by
  refine fn_run (xs := ["_law_error"]) (fnAt_of rfl (by kernel_rfl) (fn1 fun _ => rfl) (by decide) (by decide) rfl rfl rfl) rfl (by decide +kernel) fun c hc => ?_
  repeat' walk_at "vc"
  rcases hD with rfl | rfl | rfl
  · exact sole_ok e xcf_NoHill kit_NoHill_NoLand kit_NoHill_NoHill kit_NoHill_SameHill kit_NoHill_TooHigh kit_NoHill_NothingDone kit_NoHill_HillError kit_NoHill_VE (by decide) h
  · exact sole_ok e xcf_TooHigh kit_TooHigh_NoLand kit_TooHigh_NoHill kit_TooHigh_SameHill kit_TooHigh_TooHigh kit_TooHigh_NothingDone kit_TooHigh_HillError kit_TooHigh_VE (by decide) h
  · exact sole_ok e xcf_NothingDone kit_NothingDone_NoLand kit_NothingDone_NoHill kit_NothingDone_SameHill kit_NothingDone_TooHigh kit_NothingDone_NothingDone kit_NothingDone_HillError kit_NothingDone_VE (by decide) h
theorem told_back_ok {X : Value → List O → Prop} {Q : V → List O → Prop} {hp : List O} {i j h t : Nat} {xs : List Int} {ds : List (Int × Int)} (L : LandIs hp 186 i j h t xs ds) (s : Side (xs.length ≤ 256 ∧ ds.length ≤ 60000)) (hm : ∀ p ∈ ds, 0 ≤ p.1 ∧ p.1 < xs.length)
    (h1 : ds = [] → ∀ t', Q (.str "nothing done") (hp ++ t'))
    (h3 : ∀ ds' a b, ds = ds' ++ [(a, b)] → ∀ hp' x y, Chg [h, t] hp hp' → LandIs hp' 186 i j h t (lift xs a (-b)) ds' → hp.length ≤ x → hp.length ≤ y → x ≠ y → hp'[x]? = some (.list ((lack (sgl (lift xs a (-b))) (sgl xs)).map pV)) → hp'[y]? = some (.list ((lack (sgl xs) (sgl (lift xs a (-b)))).map pV)) → Q (.tup [.ref x, .ref y]) hp') : CallOK (pgo prog w p loose mean mg mb) (lev + 6) true ns 232 [.ref i, .none, .int 0] hp X Q := by
  refine fn_run (xs := ["_law_land", "_law_place", "_law_by"]) (fnAt_of rfl (by kernel_rfl) (fn3 fun _ _ _ => rfl) (by decide) (by decide) rfl rfl rfl) rfl (by decide +kernel) fun c hc => ?_
  refine ss_cons (s_try ?_)
  refine ss_if ?_
  repeat' walk_at "vc"
  refine at_m L.a L.b rfl mth_back ?_
  repeat' walk_at "vc"
  refine back_ok L s hm (fun q => ?_) h3
  have hex : (hp ++ [O.exn 85])[hp.length]? = some (.exn 85) := app_new
  show Hd _ _ _ _ _ _ _
  repeat' (first | walk_at "vc" | refine base_ok hex (by simp) ?_)
  exact h1 q _
theorem told_lift_ok {X : Value → List O → Prop} {Q : V → List O → Prop} {hp : List O} {i j h t : Nat} {xs : List Int} {ds : List (Int × Int)} {vp vb : V} (L : LandIs hp 186 i j h t xs ds) (s : Side (xs.length ≤ 256 ∧ ds.length ≤ 60000)) (p1 : Plain hp vp) (p2 : Plain hp vb) (p3 : notN vp = true)
    (h1 : dueOf xs vp vb = .nohill → ∀ t', Q (.str "no hill") (hp ++ t')) (h2 : dueOf xs vp vb = .high → ∀ t', Q (.str "too high") (hp ++ t'))
    (h3 : ∀ a b, dueOf xs vp vb = .ok a b → ∀ hp' x y, Chg [h, t] hp hp' → LandIs hp' 186 i j h t (lift xs a b) (ds ++ [(a, b)]) → hp.length ≤ x → hp.length ≤ y → x ≠ y → hp'[x]? = some (.list ((lack (sgl (lift xs a b)) (sgl xs)).map pV)) → hp'[y]? = some (.list ((lack (sgl xs) (sgl (lift xs a b))).map pV)) → Q (.tup [.ref x, .ref y]) hp') : CallOK (pgo prog w p loose mean mg mb) (lev + 6) true ns 232 [.ref i, vp, vb] hp X Q := by
  refine fn_run (xs := ["_law_land", "_law_place", "_law_by"]) (fnAt_of rfl (by kernel_rfl) (fn3 fun _ _ _ => rfl) (by decide) (by decide) rfl rfl rfl) rfl (by decide +kernel) fun c hc => ?_
  refine ss_cons (s_try ?_)
  refine ss_if ?_
  repeat' (first | walk_at "vc" | refine cmp_is_vN p3 ?_)
  refine at_m L.a L.b rfl mth_lift ?_
  repeat' walk_at "vc"
  refine lift_ok L s p1 p2 (fun q => ?_) (fun q => ?_) h3
  · have hex : (hp ++ [O.exn 49])[hp.length]? = some (.exn 49) := app_new
    show Hd _ _ _ _ _ _ _
    repeat' (first | walk_at "vc" | refine base_ok hex (by simp) ?_)
    exact h1 q _
  · have hex : (hp ++ [O.exn 73])[hp.length]? = some (.exn 73) := app_new
    show Hd _ _ _ _ _ _ _
    repeat' (first | walk_at "vc" | refine base_ok hex (by simp) ?_)
    exact h2 q _

theorem due_by_ok {X : Value → List O → Prop} {Q : V → List O → Prop} {hp : List O} {i : Nat} {xs : List Int} {vp vb : V} (hi : hp[i]? = some (.list (xs.map .int))) (s : Side (xs.length ≤ 256)) (p1 : Plain hp vp) (p2 : Plain hp vb)
    (h1 : dueOf xs vp vb = .nohill → Q (.str "no hill") hp) (h2 : dueOf xs vp vb = .high → Q (.str "too high") hp)
    (h3 : ∀ a b, dueOf xs vp vb = .ok a b → ∀ hp' x y, Keep hp hp' → hp.length ≤ x → hp.length ≤ y → hp'[x]? = some (.list ((lack (sgl (lift xs a b)) (sgl xs)).map pV)) → hp'[y]? = some (.list ((lack (sgl xs) (sgl (lift xs a b))).map pV)) → Q (.tup [.ref x, .ref y]) hp') : CallOK (pgo prog w p loose mean mg mb) (lev + 2) true ns 249 [.ref i, vp, vb] hp X Q := by
  refine fn_run (xs := ["_law_heights", "_law_place", "_law_by"]) (fnAt_of rfl (by kernel_rfl) (fn3 fun _ _ _ => rfl) (by decide) (by decide) rfl rfl rfl) rfl (by decide +kernel) fun c hc => ?_
  have s' := s.h
  have sl : Side (xs.length < 2 ^ 62) := ⟨by omega⟩
  refine ss_if ?_
  repeat' walk_at "vc"
  refine whole_any p1 (fun a ea => ?_) (fun q => ?_)
  rotate_left
  · repeat' walk_at "vc"
    exact h1 (due_no fun a e => (q a e).elim)
  subst ea
  repeat' walk_at "vc"
  refine if_decide (fun a0 => ?_) (fun q => ?_)
  rotate_left
  · repeat' walk_at "vc"
    exact h1 (due_no fun a' e z => by cases e; exact absurd z q)
  repeat' walk_at "vc"
  · exact sl
  refine if_ndecide (fun q => ?_) (fun a1 => ?_)
  · repeat' walk_at "vc"
    exact h1 (due_no fun a' e _ z => by cases e; exact absurd z q)
  have sx : Side (0 ≤ a ∧ a < xs.length ∧ xs.length < 2 ^ 62) := ⟨by omega⟩
  repeat' walk_at "vc"
  refine ss_if ?_
  repeat' walk_at "vc"
  refine whole_any p2 (fun b eb => ?_) (fun q => ?_)
  rotate_left
  · repeat' walk_at "vc"
    exact h2 (due_high a0 a1 fun b e => (q b e).elim)
  subst eb
  repeat' walk_at "vc"
  · exact sx
  refine if_decide (fun z1 => ?_) (fun q => ?_)
  rotate_left
  · repeat' walk_at "vc"
    exact h2 (due_high a0 a1 fun b e z => by cases e; exact absurd z q)
  repeat' walk_at "vc"
  refine if_ndecide (fun q => ?_) (fun z2 => ?_)
  · repeat' walk_at "vc"
    exact h2 (due_high a0 a1 fun b e _ z => by cases e; exact absurd z q)
  have h3 := h3 a b (due_ok a0 a1 z1 z2)
  repeat' walk_at "vc"
  refine sights_by_ok hi s ?_
  repeat' walk_at "vc"
  refine i_range (by walk_at "cx") gl_range (by kernel_rfl) rfl ?_
  repeat' walk_at "vc"
  · exact sl
  · exact ⟨by omega⟩
  refine comp_ints (by walk_at "cx") (by kernel_rfl) (fun k x => x = g xs k + b * (if (k : Int) = a then 1 else 0)) ?_ (fun _ => trivial) ?_ ?_
  · rw [rngItems_length, sizeLine_eq]; omega
  · intro k hk vs hv
    refine ⟨_, tgt1, fun c' hc' => ?_⟩
    rw [rngItems_get, Int.zero_add]
    rw [rngItems_length] at hk
    repeat' walk_at "vc"
    · exact ⟨by omega⟩
    · exact ⟨.inr (by split <;> decide)⟩
    refine ⟨rfl, _, rfl, ?_⟩
    simp only [decide_eq_true_eq]
  intro ys hy hr
  rw [rngItems_length] at hy
  have ey := lift_eq (by omega) a0 a1 hr
  subst ey
  repeat' walk_at "vc"
  refine sights_by_ok app_new ⟨by rw [lift_length]; omega⟩ ?_
  have z3 : xs.length * xs.length ≤ 256 * 256 := Nat.mul_le_mul s' s'
  have z4 : (sgl xs).length ≤ 65536 := by have := sg_len (g xs) xs.length; unfold sgl; omega
  have z5 : (sgl (lift xs a b)).length ≤ 65536 := by have := sg_len (g (lift xs a b)) (lift xs a b).length; unfold sgl; rw [lift_length] at *; omega
  have f1 : (hp ++ [O.list ((sgl xs).map pV)] ++ [O.list ((lift xs a b).map V.int)] ++ [O.list ((sgl (lift xs a b)).map pV)])[hp.length]? = some (.list ((sgl xs).map pV)) := app_get (app_get app_new)
  have f2 : (hp ++ [O.list ((sgl xs).map pV)] ++ [O.list ((lift xs a b).map V.int)] ++ [O.list ((sgl (lift xs a b)).map pV)])[(hp ++ [O.list ((sgl xs).map pV)] ++ [O.list ((lift xs a b).map V.int)]).length]? = some (.list ((sgl (lift xs a b)).map pV)) := app_new
  have k1 : Keep hp (hp ++ [O.list ((sgl xs).map pV)] ++ [O.list ((lift xs a b).map V.int)] ++ [O.list ((sgl (lift xs a b)).map pV)]) := Keep.refl.app.app.app
  generalize (hp ++ [O.list ((sgl xs).map pV)] ++ [O.list ((lift xs a b).map V.int)]).length = U at f2 ⊢
  generalize hp ++ [O.list ((sgl xs).map pV)] ++ [O.list ((lift xs a b).map V.int)] ++ [O.list ((sgl (lift xs a b)).map pV)] = hp₁ at f1 f2 k1 ⊢
  repeat' walk_at "vc"
  refine lacking_ok f2 f1 ⟨z5, z4⟩ (fun hp₂ r1 k2 n1 e1 => ?_)
  repeat' walk_at "vc"
  refine lacking_ok (k2 _ _ f1) (k2 _ _ f2) ⟨z4, z5⟩ (fun hp₃ r2 k3 n2 e2 => ?_)
  repeat' walk_at "vc"
  exact h3 hp₃ r1 r2 ((k1.trans k2).trans k3) (Nat.le_trans (keep_len k1) n1) (Nat.le_trans (keep_len (k1.trans k2)) n2) (k3 _ _ e1) e2

theorem alike_str {X : Value → List O → Prop} {Q : V → List O → Prop} {hp : List O} {W : Str} (s : PyData.strOk W = true) (h : Q (.bool true) hp) : CallOK (pgo prog w p loose mean mg mb) (lev + 1) true ns 256 [.str W, .str W] hp X Q := by
  refine fn_run (xs := ["_law_found", "_law_due"]) (fnAt_of rfl (by kernel_rfl) (fn2 fun _ _ => rfl) (by decide) (by decide) rfl rfl rfl) rfl (by decide +kernel) fun c hc => ?_
  refine ss_if ?_
  repeat' (first | (show Cmp _ _ _ _ _ _ _ _; refine cmp_str_eq s ?_) | walk_at "vc")
  exact h
theorem alike_tup {X : Value → List O → Prop} {Q : V → List O → Prop} {hp : List O} {x y x' y' : Nat} {ps qs : List (Int × Int)} (hx : hp[x]? = some (.list (ps.map pV))) (hy : hp[y]? = some (.list (qs.map pV))) (hx' : hp[x']? = some (.list (ps.map pV))) (hy' : hp[y']? = some (.list (qs.map pV))) (ne : x ≠ y) (s : Side (ps.length ≤ 65536 ∧ qs.length ≤ 65536))
    (h : ∀ hp', Chg [x, y] hp hp' → hp'[x]? = some (.list ((ps ++ [(0, 0)]).map pV)) → hp'[y]? = some (.list ((qs ++ [(0, 0)]).map pV)) → Q (.bool true) hp') : CallOK (pgo prog w p loose mean mg mb) (lev + 1) true ns 256 [.tup [.ref x, .ref y], .tup [.ref x', .ref y']] hp X Q := by
  refine fn_run (xs := ["_law_found", "_law_due"]) (fnAt_of rfl (by kernel_rfl) (fn2 fun _ _ => rfl) (by decide) (by decide) rfl rfl rfl) rfl (by decide +kernel) fun c hc => ?_
  have s' := s.h
  refine ss_if ?_
  repeat' walk_at "vc"
  refine ss_if ?_
  repeat' walk_at "vc"
  refine ss_if ?_
  repeat' (first | walk_at "vc" | refine cmp_pairs_ne hx hx' ?_)
  rw [show decide (ps = ps) = true by simp]
  repeat' (first | walk_at "vc" | refine cmp_pairs_ne hy hy' ?_)
  rw [show decide (qs = qs) = true by simp]
  repeat' walk_at "vc"
  · exact ⟨by rw [List.length_map, sizeLine_eq]; omega⟩
  rw [show V.tup [V.int 0, V.int 0] = pV (0, 0) from rfl, map_appP]
  have hx1 : (hp.set x (O.list ((ps ++ [(0, 0)]).map pV)))[x]? = _ := set_at hx
  have hy1 : (hp.set x (O.list ((ps ++ [(0, 0)]).map pV)))[y]? = _ := set_get hy ne
  have c1 : Chg [x, y] hp (hp.set x (O.list ((ps ++ [(0, 0)]).map pV))) := Chg.refl.set (.inl (by simp))
  generalize hp.set x (O.list ((ps ++ [(0, 0)]).map pV)) = hp₁ at hx1 hy1 c1 ⊢
  repeat' walk_at "vc"
  · exact ⟨by rw [List.length_map, sizeLine_eq]; omega⟩
  rw [show V.tup [V.int 0, V.int 0] = pV (0, 0) from rfl, map_appP]
  exact h _ (c1.set (.inl (by simp))) (set_get hx1 (Ne.symm ne)) (set_at hy1)

theorem bools_of {vs : List V} {b : Bool} (h : ∀ (j : Nat) (hj : j < vs.length), vs[j] = .bool b) : vs = (List.replicate vs.length b).map V.bool := by
  refine List.ext_getElem (by simp) fun j h1 h2 => ?_
  rw [h j h1]
  simp
theorem all_rep {n : Nat} : (List.replicate n true).all id = true := by
  rw [List.all_eq_true]
  intro x hx
  exact (List.eq_of_mem_replicate hx)
theorem kept_ok {X : Value → List O → Prop} {Q : V → List O → Prop} {hp : List O} {M : List Nat} {T : Nat} {vs : List V} {v : V} (hT : hp[T]? = some (.list vs)) (ht : ToldOk M hp vs) (hM : T ∈ M) (hML : ∀ x ∈ M, x < hp.length) (s : Side (vs.length ≤ 1000))
    (hv : (∃ (x y : Nat) (ps qs : List (Int × Int)), v = .tup [.ref x, .ref y] ∧ (hp[x]? = some (.list (ps.map pV)) ∧ x ∉ M) ∧ (hp[y]? = some (.list (qs.map pV)) ∧ y ∉ M) ∧ ps.length ≤ 70000 ∧ qs.length ≤ 70000) ∨ (∃ W, v = .str W) ∨ v = .none)
    (h : ∀ hp' vs', Chg [T] hp hp' → hp'[T]? = some (.list vs') → ToldOk M hp' vs' → vs'.length ≤ vs.length + 1 → Q (.bool true) hp') : CallOK (pgo prog w p loose mean mg mb) (lev + 1) true ns 261 [.ref T, v] hp X Q := by
  refine fn_run (xs := ["_law_told_here", "_law_found"]) (fnAt_of rfl (by kernel_rfl) (fn2 fun _ _ => rfl) (by decide) (by decide) rfl rfl rfl) rfl (by decide +kernel) fun c hc => ?_
  have s' := s.h
  repeat' walk_at "vc"
  refine i_val ?_
  repeat' walk_at "vc"
  refine srv_ref (by walk_at "cx") hT ?_
  refine comp_gen (by walk_at "cx") (by kernel_rfl) (fun _ v => v = .bool true) (by rw [sizeLine_eq]; omega) (fun _ => app_get hT) ?_ ?_
  · intro k hk ws hw hr
    obtain ⟨a, b, c', d, ps, qs, e, h1, h2, h3, h4⟩ := ht _ (List.getElem_mem hk)
    rw [e]
    refine ⟨_, rfl, fun c' hc' => ?_⟩
    have h1 := app_get (t := [O.list ws]) h1.1
    have h2 := app_get (t := [O.list ws]) h2.1
    have h3 := app_get (t := [O.list ws]) h3.1
    have h4 := app_get (t := [O.list ws]) h4.1
    repeat' (first | walk_at "vc" | refine cmp_pairs_eq h1 h3 ?_)
    rw [show decide (ps = ps) = true by simp]
    repeat' (first | walk_at "vc" | refine cmp_pairs_eq h2 h4 ?_)
    rw [show decide (qs = qs) = true by simp]
    exact ⟨rfl, rfl⟩
  intro ws hw hr
  rw [bools_of hr]
  repeat' walk_at "vc"
  refine cb_all (by walk_at "cx") app_new ?_
  rw [all_rep]
  have hT1 := app_get (t := [O.list ((List.replicate ws.length true).map V.bool)]) hT
  have k1 : Keep hp (hp ++ [O.list ((List.replicate ws.length true).map V.bool)]) := Keep.refl.app
  have n1 : hp.length ≤ (hp ++ [O.list ((List.replicate ws.length true).map V.bool)]).length := keep_len k1
  generalize hp ++ [O.list ((List.replicate ws.length true).map V.bool)] = hp₁ at hT1 k1 n1 ⊢
  clear hr hw ws
  repeat' walk_at "vc"
  refine ss_if ?_
  have ht1 := ht.chg (M' := M) k1.chg (fun _ h => h)
  rcases hv with ⟨x, y, ps, qs, rfl, ⟨hx, x1⟩, ⟨hy, y1⟩, l1, l2⟩ | ⟨W, rfl⟩ | rfl
  · have hx1 := k1 _ _ hx
    have hy1 := k1 _ _ hy
    repeat' walk_at "vc"
    · exact ⟨by rw [List.length_map, sizeLine_eq]; omega⟩
    · exact ⟨by rw [List.length_map, sizeLine_eq]; omega⟩
    · exact ⟨by rw [sizeLine_eq]; omega⟩
    have hlt := hML T hM
    have c1 : Chg [T] hp ((hp₁ ++ [O.list (ps.map pV)] ++ [O.list (qs.map pV)]).set T (O.list (vs ++ [V.tup [V.tup [V.ref x, V.ref y], V.ref hp₁.length, V.ref (hp₁ ++ [O.list (ps.map pV)]).length]]))) := (Chg.app (Chg.app k1.chg)).set (.inl (by simp))
    refine h _ _ c1 (set_at (app_get (app_get hT1))) ?_ (by simp)
    intro u hu
    rcases List.mem_append.mp hu with q | q
    · obtain ⟨a, b, c', d, ps, qs, e, h1, h2, h3, h4⟩ := ht u q
      have go : ∀ {z : Nat} {o : O}, hp[z]? = some o ∧ z ∉ M → ((hp₁ ++ [O.list _] ++ [O.list _]).set T _)[z]? = some o ∧ z ∉ M := fun z => ⟨c1.keep _ _ (fun y => z.2 (by rw [List.mem_singleton.mp y]; exact hM)) z.1, z.2⟩
      exact ⟨a, b, c', d, ps, qs, e, go h1, go h2, go h3, go h4⟩
    · have nT : ∀ z, z ∉ M → T ≠ z := fun z hz e => hz (e ▸ hM)
      have nN : ∀ z, hp.length ≤ z → z ∉ M := fun z hz e => by have := hML z e; omega
      rw [List.mem_singleton.mp q]
      refine ⟨x, y, hp₁.length, (hp₁ ++ [O.list (ps.map pV)]).length, ps, qs, rfl, ⟨set_get (app_get (app_get hx1)) (nT _ x1), x1⟩, ⟨set_get (app_get (app_get hy1)) (nT _ y1), y1⟩, ⟨set_get (app_get app_new) (by omega), nN _ n1⟩, ⟨set_get app_new (by rw [List.length_append]; omega), nN _ (by rw [List.length_append]; omega)⟩⟩
  · repeat' walk_at "vc"
    exact h _ _ k1.chg hT1 ht1 (by omega)
  · repeat' walk_at "vc"
    exact h _ _ k1.chg hT1 ht1 (by omega)

theorem stands_ok {X : Value → List O → Prop} {Q : V → List O → Prop} {hp : List O} {i j h t H : Nat} {xs : List Int} {ds : List (Int × Int)} (L : LandIs hp 186 i j h t xs ds) (hH : hp[H]? = some (.list (xs.map .int))) (s : Side (xs.length ≤ 256)) (k : ∀ hp', Keep hp hp' → Q (.bool true) hp') : CallOK (pgo prog w p loose mean mg mb) (lev + 5) true ns 268 [.ref i, .ref H] hp X Q := by
  refine fn_run (xs := ["_law_land", "_law_heights"]) (fnAt_of rfl (by kernel_rfl) (fn2 fun _ _ => rfl) (by decide) (by decide) rfl rfl rfl) rfl (by decide +kernel) fun c hc => ?_
  have s' := s.h
  have szx : Side ((xs.map V.int).length ≤ sizeLine) := ⟨by rw [List.length_map, sizeLine_eq]; omega⟩
  have z3 : xs.length * xs.length ≤ 256 * 256 := Nat.mul_le_mul s' s'
  have z4 : (sgl xs).length ≤ 65536 := by have := sg_len (g xs) xs.length; unfold sgl; omega
  have szp : Side (((sgl xs).map pV).length ≤ sizeLine) := ⟨by rw [List.length_map, sizeLine_eq]; omega⟩
  repeat' walk_at "vc"
  refine at_m L.a L.b rfl mth_told ?_
  repeat' walk_at "vc"
  refine told_ok L.a L.b rfl L.c szx ?_
  have k1 : Keep hp (hp ++ [O.list (xs.map V.int)]) := Keep.refl.app
  have t1 := app_new (hp := hp) (o := O.list (xs.map V.int))
  have L1 := L.keep k1
  have n1 : hp.length < (hp ++ [O.list (xs.map V.int)]).length := by simp
  generalize hp ++ [O.list (xs.map V.int)] = hp₁ at k1 t1 L1 n1 ⊢
  repeat' walk_at "vc"
  refine at_m L1.a L1.b rfl mth_seen ?_
  repeat' walk_at "vc"
  refine seen_ok L1 s (fun hp₂ k2 f2 => ?_)
  have t2 := k2 _ _ t1
  have H2 := k2 _ _ (k1 _ _ hH)
  have n2 := get_lt f2
  repeat' walk_at "vc"
  refine ss_if ?_
  repeat' (first | walk_at "vc" | refine cmp_ints_ne t2 H2 ?_)
  rw [show decide (xs = xs) = true by simp]
  repeat' walk_at "vc"
  refine ss_if ?_
  repeat' walk_at "vc"
  refine sights_by_ok H2 s ?_
  repeat' (first | walk_at "vc" | refine cmp_pairs_ne (app_get f2) app_new ?_)
  rw [show decide (sgl xs = sgl xs) = true by simp]
  have L3 := (L1.keep k2).keep (Keep.refl.app (t := [O.list ((sgl xs).map pV)]))
  have t3 := app_get (t := [O.list ((sgl xs).map pV)]) t2
  have f3 := app_get (t := [O.list ((sgl xs).map pV)]) f2
  have H3 := app_get (t := [O.list ((sgl xs).map pV)]) H2
  have k3 : Keep hp (hp₂ ++ [O.list ((sgl xs).map pV)]) := (k1.trans k2).app
  generalize hp₂ ++ [O.list ((sgl xs).map pV)] = hp₃ at L3 t3 f3 H3 k3 ⊢
  generalize hp₁.length = S at f3 n1 n2 ⊢
  clear L1 k1 t1 k2 f2 t2 H2
  repeat' walk_at "vc"
  · exact szx
  rw [show ∀ x : Int, xs.map V.int ++ [V.int x] = (xs ++ [x]).map V.int from fun x => by simp]
  have hHl := get_lt hH
  have t4 : (hp₃.set hp.length (O.list ((xs ++ [0]).map V.int)))[hp.length]? = _ := set_at t3
  have f4 : (hp₃.set hp.length (O.list ((xs ++ [0]).map V.int)))[S]? = _ := set_get f3 (by omega)
  have k4 : Keep hp (hp₃.set hp.length (O.list ((xs ++ [0]).map V.int))) := k3.set (Nat.le_refl _)
  generalize hp₃.set hp.length (O.list ((xs ++ [0]).map V.int)) = hp₄ at t4 f4 k4 ⊢
  clear L3 t3 f3 H3 k3
  repeat' walk_at "vc"
  · exact szp
  rw [show V.tup [V.int 0, V.int 0] = pV (0, 0) from rfl, map_appP]
  have t5 : (hp₄.set S (O.list ((sgl xs ++ [(0, 0)]).map pV)))[hp.length]? = _ := set_get t4 (by omega)
  have f5 : (hp₄.set S (O.list ((sgl xs ++ [(0, 0)]).map pV)))[S]? = _ := set_at f4
  have k5 : Keep hp (hp₄.set S (O.list ((sgl xs ++ [(0, 0)]).map pV))) := k4.set (by omega)
  generalize hp₄.set S (O.list ((sgl xs ++ [(0, 0)]).map pV)) = hp₅ at t5 f5 k5 ⊢
  clear t4 f4 k4
  have L5 := L.keep k5
  have H5 := k5 _ _ hH
  refine ss_if ?_
  repeat' walk_at "vc"
  refine at_m L5.a L5.b rfl mth_told ?_
  repeat' walk_at "vc"
  refine told_ok L5.a L5.b rfl L5.c szx ?_
  repeat' (first | walk_at "vc" | refine cmp_ints_ne app_new (app_get H5) ?_)
  rw [show decide (xs = xs) = true by simp]
  have L6 := L5.keep (Keep.refl.app (t := [O.list (xs.map V.int)]))
  repeat' walk_at "vc"
  refine at_m L6.a L6.b rfl mth_seen ?_
  repeat' walk_at "vc"
  refine seen_ok L6 s (fun hp₆ k6 f6 => ?_)
  have t6 := k6 _ _ (app_get t5)
  have g6 := k6 _ _ (app_get f5)
  have H6 := k6 _ _ (app_get H5)
  have k7 : Keep hp hp₆ := k5.app.trans k6
  repeat' (first | walk_at "vc" | refine Exists.intro _ (And.intro rfl ?_))
  · exact ⟨by rw [List.length_map, List.length_append, List.length_singleton, sizeLine_eq]; omega⟩
  rw [pick_last]
  repeat' (first | walk_at "vc" | refine cmp_pairs_ne (app_get f6) app_new ?_)
  rw [show decide (sgl xs = sgl xs) = true by simp]
  repeat' walk_at "vc"
  · exact ⟨by simp only [List.length_map, List.length_cons, List.length_nil, sizeLine_eq]; omega⟩
  rw [show ∀ x : Int, xs.map V.int ++ [V.int x] = (xs ++ [x]).map V.int from fun x => by simp]
  refine cmp_ints_eq (xs := xs ++ [0]) (ys := xs ++ [0]) (by walk_at "hp") (by walk_at "hp") ?_
  rw [show decide (xs ++ [0] = xs ++ [0]) = true by simp]
  exact k _ k7.app.app.app

theorem deed_ok {X : Value → List O → Prop} {Q : V → List O → Prop} {hp : List O} {i : Nat} {xs : List Int} {cl : Int} (hi : hp[i]? = some (.list (xs.map .int))) (s : Side (0 < xs.length ∧ xs.length ≤ 256)) (h : ∀ vp vb hp', Keep hp hp' → Plain hp' vp → Plain hp' vb → Q (.tup [vp, vb]) hp') : CallOK (pgo prog w p loose mean mg mb) (lev + 1) true ns 239 [.int cl, .ref i] hp X Q := by
  refine fn_run (xs := ["_law_cell", "_law_heights"]) (fnAt_of rfl (by kernel_rfl) (fn2 fun _ _ => rfl) (by decide) (by decide) rfl rfl rfl) rfl (by decide +kernel) fun c hc => ?_
  have s' := s.h
  have sl : Side (xs.length < 2 ^ 62) := ⟨by omega⟩
  have sp : Side (0 < (xs.length : Int)) := ⟨by omega⟩
  have sq : Side (0 < (xs.length : Int) ∧ (xs.length : Int) < 2 ^ 30) := ⟨by omega, by omega⟩
  repeat' walk_at "vc"
  all_goals try walk_at "side"
  have ma := Int.emod_lt_of_pos (cl / 11) (b := xs.length) (by omega)
  have ma' := Int.emod_nonneg (cl / 11) (b := xs.length) (by omega)
  have sx : Side (0 ≤ cl / 11 % (xs.length : Int) ∧ cl / 11 % (xs.length : Int) < xs.length ∧ xs.length < 2 ^ 62) := ⟨by omega⟩
  generalize cl / 11 / (xs.length : Int) = rest
  generalize cl / 11 % (xs.length : Int) = place at sx ⊢
  clear ma ma'
  refine ss_if ?_
  repeat' walk_at "vc"
  refine if_decide (fun q => ?_) (fun q => ?_)
  · repeat' walk_at "vc"
    all_goals first | walk_at "side" | exact h _ _ _ Keep.refl trivial trivial
  repeat' walk_at "vc"
  refine ss_if ?_
  repeat' walk_at "vc"
  refine if_decide (fun q => ?_) (fun q => ?_)
  · repeat' walk_at "vc"
    all_goals first | walk_at "side" | exact h _ _ _ Keep.refl trivial trivial
  repeat' walk_at "vc"
  refine ss_if ?_
  repeat' walk_at "vc"
  refine if_decide (fun q => ?_) (fun q => ?_)
  · repeat' walk_at "vc"
    all_goals first | exact sx | walk_at "side" | exact h _ _ _ Keep.refl trivial trivial
  repeat' walk_at "vc"
  refine ss_if ?_
  repeat' walk_at "vc"
  refine if_decide (fun q => ?_) (fun q => ?_)
  · repeat' walk_at "vc"
    all_goals first | exact sx | walk_at "side" | exact h _ _ _ Keep.refl trivial trivial
  repeat' walk_at "vc"
  refine ss_if ?_
  repeat' walk_at "vc"
  refine if_decide (fun q => ?_) (fun q => ?_)
  · repeat' walk_at "vc"
    all_goals first | exact sl | walk_at "side" | skip
    refine sb_all (by walk_at "hp") ?_ (fun v hv => ?_)
    · refine ⟨?_⟩
      simp only [List.length_cons, List.length_nil]
      omega
    have pv : Plain (hp ++ [O.list [.int 0]] ++ [O.list [V.int (-1), V.int xs.length, V.bool true, V.str "0", V.bool false, V.tup [V.int 0], V.ref hp.length]]) v := by
      simp only [List.mem_cons, List.not_mem_nil, or_false] at hv
      rcases hv with rfl | rfl | rfl | rfl | rfl | rfl | rfl
      all_goals first | exact trivial | exact ⟨_, by walk_at "hp"⟩
    clear hv
    have k1 : Keep hp (hp ++ [O.list [.int 0]] ++ [O.list [V.int (-1), V.int xs.length, V.bool true, V.str "0", V.bool false, V.tup [V.int 0], V.ref hp.length]]) := Keep.refl.app.app
    generalize hp ++ [O.list [.int 0]] ++ [O.list [V.int (-1), V.int xs.length, V.bool true, V.str "0", V.bool false, V.tup [V.int 0], V.ref hp.length]] = hp₁ at pv k1 ⊢
    repeat' walk_at "vc"
    all_goals first | walk_at "side" | skip
    refine sb_all (by walk_at "hp") ?_ (fun u hu => ?_)
    · refine ⟨?_⟩
      simp only [List.length_cons, List.length_nil]
      omega
    have pu : ∀ hp : List O, Plain hp u := by
      simp only [List.mem_cons, List.not_mem_nil, or_false] at hu
      rcases hu with rfl | rfl <;> exact fun _ => trivial
    repeat' walk_at "vc"
    exact h _ _ _ k1.app (plain_app pv) (pu _)
  repeat' walk_at "vc"
  refine ss_if ?_
  repeat' walk_at "vc"
  refine if_decide (fun q => ?_) (fun q => ?_)
  · repeat' walk_at "vc"
    all_goals first | walk_at "side" | skip
    refine sb_all (by walk_at "hp") ?_ (fun v hv => ?_)
    · refine ⟨?_⟩
      simp only [List.length_cons, List.length_nil]
      omega
    have pv : ∀ hp : List O, Plain hp v := by
      simp only [List.mem_cons, List.not_mem_nil, or_false] at hv
      rcases hv with rfl | rfl | rfl | rfl | rfl <;> exact fun _ => trivial
    repeat' walk_at "vc"
    exact h _ _ _ Keep.refl.app trivial (pv _)
  repeat' walk_at "vc"
  exact h _ _ _ Keep.refl trivial trivial
theorem strOk_nd : PyData.strOk "nothing done" = true := by decide +kernel
theorem strOk_nh : PyData.strOk "no hill" = true := by decide +kernel
theorem strOk_th : PyData.strOk "too high" = true := by decide +kernel
theorem plain_keep {hp hp' : List O} {v : V} (h : Plain hp v) (k : Keep hp hp') : Plain hp' v := by
  cases v <;> first | exact h | exact ⟨h.choose, k _ _ h.choose_spec⟩
theorem sgl_len (xs : List Int) (h : xs.length ≤ 256) : (sgl xs).length ≤ 65536 := by
  have := sg_len (g xs) xs.length
  have : xs.length * xs.length ≤ 256 * 256 := Nat.mul_le_mul h h
  unfold sgl
  omega
theorem some_of {v : V} {hp : List O} (h : Plain hp v) (n : v ≠ .none) : notN v = true := by
  cases v <;> first | rfl | exact absurd rfl n | exact h.elim
theorem goes_ok {X : Value → List O → Prop} {Q : V → List O → Prop} {hp : List O} {i j h t H D T : Nat} {M : List Nat} {b0 xs : List Int} {ds : List (Int × Int)} {vs : List V} {vp vb : V} (W : Wk hp 186 i j h t H D b0 xs ds) (hT : hp[T]? = some (.list vs)) (ht : ToldOk M hp vs) (nd : [h, t, H, D, T].Nodup) (hM : ∀ x ∈ [h, t, H, D, T], x ∈ M) (hML : ∀ x ∈ M, x < hp.length) (hb : Bd b0)
    (s : Side (b0.length ≤ 256 ∧ ds.length ≤ 1000 ∧ vs.length ≤ 1000)) (p1 : Plain hp vp) (p2 : Plain hp vb)
    (k : ∀ hp' xs' ds' vs', Chg [h, t, H, D, T] hp hp' → Wk hp' 186 i j h t H D b0 xs' ds' → hp'[T]? = some (.list vs') → ToldOk M hp' vs' → ds'.length ≤ ds.length + 1 → vs'.length ≤ vs.length + 1 → Q (.bool true) hp') : CallOK (pgo prog w p loose mean mg mb) (lev + 7) true ns 296 [.ref i, .ref H, .ref D, vp, vb, .ref T] hp X Q := by
  refine fn_run (xs := ["_law_land", "_law_heights", "_law_done_here", "_law_place", "_law_by", "_law_told_here"]) (fnAt_of rfl (by kernel_rfl) (fn6 fun _ _ _ _ _ _ => rfl) (by decide) (by decide) rfl rfl rfl) rfl (by decide +kernel) fun c hc => ?_
  have s' := s.h
  have hx := W.rel.length
  have sx : Side (xs.length ≤ 256) := ⟨by omega⟩
  have sl : Side (xs.length ≤ 256 ∧ ds.length ≤ 60000) := ⟨by omega⟩
  have ML : ∀ x ∈ [h, t, H, D, T], ∃ vs, hp[x]? = some (O.list vs) := memC ⟨_, W.L.c⟩ (memC ⟨_, W.L.d⟩ (memC ⟨_, W.H⟩ (memC ⟨_, W.D⟩ (memC ⟨_, hT⟩ memN))))
  have hlT := get_lt hT
  have hlh := get_lt W.L.c
  have hlt := get_lt W.L.d
  have hlH := get_lt W.H
  have hlD := get_lt W.D
  have HH := W.H
  have HD := W.D
  simp only [List.nodup_cons, List.mem_cons, List.not_mem_nil, or_false, not_or, List.nodup_nil, and_true, not_false_eq_true] at nd
  obtain ⟨⟨n1, n2, n3, n4⟩, ⟨n5, n6, n7⟩, ⟨n8, n9⟩, n10⟩ := nd
  have iH : H ∉ [h, t] := nin2 (Ne.symm n2) (Ne.symm n5)
  have iD : D ∉ [h, t] := nin2 (Ne.symm n3) (Ne.symm n6)
  have iT : T ∉ [h, t] := nin2 (Ne.symm n4) (Ne.symm n7)
  have iht : ∀ {z}, hp.length ≤ z → z ∉ [h, t] := fun hz => nin2 (Nat.ne_of_gt (Nat.lt_of_lt_of_le hlh hz)) (Nat.ne_of_gt (Nat.lt_of_lt_of_le hlt hz))
  have sHD : ∀ x ∈ [H, D], x ∈ [h, t, H, D, T] := memC (.tail _ (.tail _ (.head _))) (memC (.tail _ (.tail _ (.tail _ (.head _)))) memN)
  have sht : ∀ {P : Nat → Prop}, ∀ x ∈ [h, t], x ∈ [h, t, H, D, T] ∨ P x := memC (.inl (.head _)) (memC (.inl (.tail _ (.head _))) memN)
  have kp : ∀ {X' : Value → List O → Prop} {Q' : V → List O → Prop} {v : V} (hp₁ : List O) (xs' : List Int) (ds' : List (Int × Int)), Chg [h, t, H, D, T] hp hp₁ → hp₁[h]? = some (.list (xs'.map .int)) → hp₁[t]? = some (.list (ds'.map pV)) → hp₁[H]? = some (.list (xs'.map .int)) → hp₁[D]? = some (.list (ds'.map pV)) → hp₁[T]? = some (.list vs) → Rel b0 xs' ds' → ds'.length ≤ ds.length + 1 →
      ((∃ (x y : Nat) (ps qs : List (Int × Int)), v = .tup [.ref x, .ref y] ∧ (hp₁[x]? = some (.list (ps.map pV)) ∧ x ∉ M) ∧ (hp₁[y]? = some (.list (qs.map pV)) ∧ y ∉ M) ∧ ps.length ≤ 70000 ∧ qs.length ≤ 70000) ∨ (∃ W, v = .str W) ∨ v = .none) →
      (∀ hp₂, LandIs hp₂ 186 i j h t xs' ds' → hp₂[H]? = some (.list (xs'.map .int)) → (∀ hp₃, Keep hp₂ hp₃ → Q (.bool true) hp₃) → Q' (.bool true) hp₂) →
      CallOK (pgo prog w p loose mean mg mb) (lev + 6) true ns 261 [.ref T, v] hp₁ X' Q' := by
    intro X' Q' v hp₁ xs' ds' c1 e1 e2 e3 e4 e5 r1 r2 hv kk
    have hML1 : ∀ x ∈ M, x < hp₁.length := fun x hx => Nat.lt_of_lt_of_le (hML x hx) c1.len
    refine kept_ok e5 (ht.chg c1 hM) (hM T (.tail _ (.tail _ (.tail _ (.tail _ (.head _)))))) hML1 ⟨s'.2.2⟩ hv (fun hp₂ vs' c2 f1 f2 f3 => ?_)
    have c3 : Chg [h, t, H, D, T] hp hp₂ := c1.add c2 (memC (.inl (.tail _ (.tail _ (.tail _ (.tail _ (.head _)))))) memN)
    have i1 := c2.keep _ _ (nin1 n4) e1
    have i2 := c2.keep _ _ (nin1 n7) e2
    have i3 := c2.keep _ _ (nin1 n9) e3
    have i4 := c2.keep _ _ (nin1 n10) e4
    have L2 := W.L.of c3 ML i1 i2
    refine kk hp₂ L2 i3 (fun hp₃ k3 => ?_)
    exact k hp₃ xs' ds' vs' (c3.trans k3.chg) ⟨L2.keep k3, k3 _ _ i3, k3 _ _ i4, r1⟩ (k3 _ _ f1) (f2.chg (M' := M) k3.chg (fun _ h => h)) r2 f3
  have nM : ∀ z, hp.length ≤ z → z ∉ M := fun z hz e => by have := hML z e; omega
  refine ss_if ?_
  by_cases hn : vp = .none
  · subst hn
    repeat' walk_at "vc"
    rcases snoc_cases ds with e | ⟨es, ⟨a, b⟩, rfl⟩
    · subst e
      refine ss_if ?_
      repeat' (first | walk_at "vc" | refine cmp_pairs_ne (ys := []) (app_get HD) app_new ?_)
      try rw [show decide (([] : List (Int × Int)) = []) = true by simp]
      have k1 : Keep hp (hp ++ [O.list []]) := Keep.refl.app
      generalize hp ++ [O.list []] = hp₁ at k1 ⊢
      repeat' walk_at "vc"
      refine told_back_ok (W.L.keep k1) sl (fun _ h => by cases h) (fun _ t' => ?_) (fun ds' a b e => by simp at e)
      have k2 : Keep hp (hp₁ ++ t') := k1.app
      generalize hp₁ ++ t' = hp₂ at k2 ⊢
      repeat' (first | walk_at "vc" | refine alike_str strOk_nd ?_)
      refine kp hp₂ xs [] k2.chg (k2 _ _ W.L.c) (k2 _ _ W.L.d) (k2 _ _ HH) (k2 _ _ HD) (k2 _ _ hT) W.rel (by simp) (.inr (.inl ⟨_, rfl⟩)) (fun hp₃ L3 i3 fin => ?_)
      repeat' walk_at "vc"
      exact stands_ok L3 i3 sx (fun hp₄ k4 => fin hp₄ k4)
    · have rp := W.rel.pop hb
      obtain ⟨⟨a0, a1⟩, r1, r2⟩ := rp
      have HD' : hp[D]? = some (.list (es.map pV ++ [V.tup [.int a, .int b]])) := by rw [HD, List.map_append]; rfl
      rw [List.length_append, List.length_singleton] at s'
      refine ss_cut (fun l hp' => ∃ x' y', (hp.length ≤ x' ∧ hp.length ≤ y') ∧ Chg [H, D] hp hp' ∧ hp'[H]? = some (.list ((lift xs a (-b)).map .int)) ∧ hp'[D]? = some (.list (es.map pV)) ∧ hp'[x']? = some (.list ((lack (sgl (lift xs a (-b))) (sgl xs)).map pV)) ∧ hp'[y']? = some (.list ((lack (sgl xs) (sgl (lift xs a (-b)))).map pV)) ∧ l "_law_due" = some (.tup [.ref x', .ref y']) ∧ l "_law_land" = some (.ref i) ∧ l "_law_heights" = some (.ref H) ∧ l "_law_told_here" = some (.ref T)) ?_ ?_
      · refine s_if ?_
        repeat' (first | walk_at "vc" | refine cmp_pairs_ne (ys := []) (app_get HD) app_new ?_)
        rw [show decide (es ++ [(a, b)] = ([] : List (Int × Int))) = false by simp]
        have k1 : Chg [H, D] hp (hp ++ [O.list []]) := Chg.refl.app
        have D1 := app_get (t := [O.list []]) HD'
        have H1 := app_get (t := [O.list []]) HH
        generalize hp ++ [O.list []] = hp₁ at k1 D1 H1 ⊢
        repeat' walk_at "vc"
        · exact ⟨by rw [List.length_map, sizeLine_eq]; omega⟩
        refine ⟨_, _, rfl, ?_⟩
        have D2 : (hp₁.set D (O.list (es.map pV)))[D]? = _ := set_at D1
        have H2 : (hp₁.set D (O.list (es.map pV)))[H]? = _ := set_get H1 (Ne.symm n8)
        have k2 : Chg [H, D] hp (hp₁.set D (O.list (es.map pV))) := k1.set (.inl (.tail _ (.head _)))
        generalize hp₁.set D (O.list (es.map pV)) = hp₂ at D2 H2 k2 ⊢
        clear k1 D1 H1
        show Ss _ _ _ _ _ _
        repeat' walk_at "vc"
        refine due_by_ok H2 sx trivial trivial (fun q => by rw [due_ok a0 a1 r2.1 r2.2] at q; cases q) (fun q => by rw [due_ok a0 a1 r2.1 r2.2] at q; cases q) (fun a' b' q hp₃ x' y' k3 x1 y1 f1 f2 => ?_)
        rw [due_ok a0 a1 r2.1 r2.2] at q
        cases q
        have kl := k2.len
        have D3 := k3 _ _ D2
        have H3 := k3 _ _ H2
        have k4 : Chg [H, D] hp hp₃ := k2.trans k3.chg
        repeat' walk_at "vc"
        refine aug_ints H3 ⟨by omega⟩ ?_
        repeat' walk_at "vc"
        refine ⟨_, rfl, rfl, ?_⟩
        rw [show xs.set a.toNat (augI .Sub (g xs a) b) = lift xs a (-b) from by show xs.set a.toNat (g xs a - b) = xs.set a.toNat (g xs a + -b); rw [Int.sub_eq_add_neg]]
        show Ss _ _ _ _ _ _
        repeat' walk_at "vc"
        exact ⟨rfl, x', y', ⟨by omega, by omega⟩, k4.set (.inl (.head _)), set_at H3, set_get D3 n8, set_get f1 (by omega), set_get f2 (by omega), by walk_at "nm", by walk_at "nm", by walk_at "nm", by walk_at "nm"⟩
      rintro l hp₁ ⟨x', y', ⟨x1', y1'⟩, c1, H1, D1, f1, f2, l1, l2, l3, l4⟩
      have L1 := W.L.chg c1 (memC ⟨_, HH⟩ (memC ⟨_, HD⟩ memN)) (nin2 n2 n3) (nin2 n5 n6)
      have T1 := c1.keep _ _ (nin2 (Ne.symm n9) (Ne.symm n10)) hT
      have len1 := c1.len
      repeat' walk_at "vc"
      refine told_back_ok L1 sl W.rel.mem (fun q => by simp at q) (fun ds' a' b' e hp₂ x y c2 L2 x1 y1 xy e1 e2 => ?_)
      obtain ⟨q1, q2⟩ := List.append_inj' e rfl
      subst q1
      injection q2 with q2 _
      injection q2 with q2 q3
      subst q2; subst q3
      have ax := sgl_len xs sx.h
      have ay := sgl_len (lift xs a (-b)) (by rw [lift_length]; exact sx.h)
      have az := lack_len (sgl (lift xs a (-b))) (sgl xs)
      have aw := lack_len (sgl xs) (sgl (lift xs a (-b)))
      have x2 : hp.length ≤ x := Nat.le_trans len1 x1
      have y2 : hp.length ≤ y := Nat.le_trans len1 y1
      have ixy : ∀ {z}, z < hp.length → z ∉ [x, y] := fun hz => nin2 (Nat.ne_of_lt (Nat.lt_of_lt_of_le hz x2)) (Nat.ne_of_lt (Nat.lt_of_lt_of_le hz y2))
      have c3 : Chg [h, t, H, D, T] hp hp₂ := (c1.mono sHD).add c2 sht
      repeat' walk_at "vc"
      refine alike_tup e1 e2 (c2.keep _ _ (iht x1') f1) (c2.keep _ _ (iht y1') f2) xy ⟨by omega, by omega⟩ (fun hp₃ c4 w1 w2 => ?_)
      have c5 : Chg [h, t, H, D, T] hp hp₃ := c3.add c4 (memC (.inr x2) (memC (.inr y2) memN))
      repeat' walk_at "vc"
      refine kp hp₃ _ _ c5 (c4.keep _ _ (ixy hlh) L2.c) (c4.keep _ _ (ixy hlt) L2.d) (c4.keep _ _ (ixy hlH) (c2.keep _ _ iH H1)) (c4.keep _ _ (ixy hlD) (c2.keep _ _ iD D1)) (c4.keep _ _ (ixy hlT) (c2.keep _ _ iT T1)) r1 (by rw [List.length_append]; omega) (.inl ⟨x, y, _, _, rfl, ⟨w1, nM _ x2⟩, ⟨w2, nM _ y2⟩, by rw [List.length_append, List.length_singleton]; omega, by rw [List.length_append, List.length_singleton]; omega⟩) (fun hp₄ L4 i4 fin => ?_)
      repeat' walk_at "vc"
      exact stands_ok L4 i4 ⟨by rw [lift_length]; exact sx.h⟩ (fun hp₅ k5 => fin hp₅ k5)
  · have sv := some_of p1 hn
    repeat' (first | walk_at "vc" | refine cmp_isn_vN sv ?_)
    refine due_by_ok HH sx p1 p2 (fun q => ?_) (fun q => ?_) (fun a b q hp₁ x' y' k1 x1' y1' f1 f2 => ?_)
    · repeat' walk_at "vc"
      refine ss_if ?_
      repeat' walk_at "vc"
      refine told_lift_ok W.L sl p1 p2 sv (fun _ t' => ?_) (fun q' => by rw [q] at q'; cases q') (fun _ _ q' => by rw [q] at q'; cases q')
      have k2 : Keep hp (hp ++ t') := Keep.refl.app
      generalize hp ++ t' = hp₂ at k2 ⊢
      repeat' (first | walk_at "vc" | refine alike_str strOk_nh ?_)
      refine kp hp₂ xs ds k2.chg (k2 _ _ W.L.c) (k2 _ _ W.L.d) (k2 _ _ HH) (k2 _ _ HD) (k2 _ _ hT) W.rel (by omega) (.inr (.inl ⟨_, rfl⟩)) (fun hp₃ L3 i3 fin => ?_)
      repeat' walk_at "vc"
      exact stands_ok L3 i3 sx (fun hp₄ k4 => fin hp₄ k4)
    · repeat' walk_at "vc"
      refine ss_if ?_
      repeat' walk_at "vc"
      refine told_lift_ok W.L sl p1 p2 sv (fun q' => by rw [q] at q'; cases q') (fun _ t' => ?_) (fun _ _ q' => by rw [q] at q'; cases q')
      have k2 : Keep hp (hp ++ t') := Keep.refl.app
      generalize hp ++ t' = hp₂ at k2 ⊢
      repeat' (first | walk_at "vc" | refine alike_str strOk_th ?_)
      refine kp hp₂ xs ds k2.chg (k2 _ _ W.L.c) (k2 _ _ W.L.d) (k2 _ _ HH) (k2 _ _ HD) (k2 _ _ hT) W.rel (by omega) (.inr (.inl ⟨_, rfl⟩)) (fun hp₃ L3 i3 fin => ?_)
      repeat' walk_at "vc"
      exact stands_ok L3 i3 sx (fun hp₄ k4 => fin hp₄ k4)
    · obtain ⟨rfl, rfl, a0, a1, r2⟩ := due_of_ok q
      have H1 := k1 _ _ HH
      have D1 := k1 _ _ HD
      have len1 := keep_len k1
      repeat' walk_at "vc"
      refine ss_if ?_
      repeat' walk_at "vc"
      · exact ⟨by rw [List.length_map, sizeLine_eq]; omega⟩
      rw [show V.tup [V.int a, V.int b] = pV (a, b) from rfl, map_appP]
      have D2 : (hp₁.set D (O.list ((ds ++ [(a, b)]).map pV)))[D]? = _ := set_at D1
      have H2 : (hp₁.set D (O.list ((ds ++ [(a, b)]).map pV)))[H]? = _ := set_get H1 (Ne.symm n8)
      have g1 : (hp₁.set D (O.list ((ds ++ [(a, b)]).map pV)))[x']? = _ := set_get f1 (by omega)
      have g2 : (hp₁.set D (O.list ((ds ++ [(a, b)]).map pV)))[y']? = _ := set_get f2 (by omega)
      have c2 : Chg [H, D] hp (hp₁.set D (O.list ((ds ++ [(a, b)]).map pV))) := (Keep.chg k1).set (.inl (.tail _ (.head _)))
      generalize hp₁.set D (O.list ((ds ++ [(a, b)]).map pV)) = hp₂ at D2 H2 g1 g2 c2 ⊢
      clear H1 D1 f1 f2
      repeat' walk_at "vc"
      refine aug_ints H2 ⟨by omega⟩ ?_
      repeat' walk_at "vc"
      refine ⟨_, rfl, rfl, ?_⟩
      rw [show xs.set a.toNat (augI .Add (g xs a) b) = lift xs a b from rfl]
      have D3 : (hp₂.set H (O.list ((lift xs a b).map V.int)))[D]? = _ := set_get D2 n8
      have H3 : (hp₂.set H (O.list ((lift xs a b).map V.int)))[H]? = _ := set_at H2
      have g3 : (hp₂.set H (O.list ((lift xs a b).map V.int)))[x']? = _ := set_get g1 (by omega)
      have g4 : (hp₂.set H (O.list ((lift xs a b).map V.int)))[y']? = _ := set_get g2 (by omega)
      have c3 : Chg [H, D] hp (hp₂.set H (O.list ((lift xs a b).map V.int))) := c2.set (.inl (.head _))
      generalize hp₂.set H (O.list ((lift xs a b).map V.int)) = hp₃ at D3 H3 g3 g4 c3 ⊢
      clear D2 H2 g1 g2 c2
      have L3 := W.L.chg c3 (memC ⟨_, HH⟩ (memC ⟨_, HD⟩ memN)) (nin2 n2 n3) (nin2 n5 n6)
      have T3 := c3.keep _ _ (nin2 (Ne.symm n9) (Ne.symm n10)) hT
      have len3 := c3.len
      show Ss _ _ _ _ _ _
      repeat' walk_at "vc"
      refine told_lift_ok L3 sl trivial trivial rfl (fun q' => by rw [q] at q'; cases q') (fun q' => by rw [q] at q'; cases q') (fun a' b' q' hp₄ x y c4 L4 x1 y1 xy e1 e2 => ?_)
      rw [q] at q'
      cases q'
      have ax := sgl_len xs sx.h
      have ay := sgl_len (lift xs a b) (by rw [lift_length]; exact sx.h)
      have az := lack_len (sgl (lift xs a b)) (sgl xs)
      have aw := lack_len (sgl xs) (sgl (lift xs a b))
      have x2 : hp.length ≤ x := Nat.le_trans len3 x1
      have y2 : hp.length ≤ y := Nat.le_trans len3 y1
      have ixy : ∀ {z}, z < hp.length → z ∉ [x, y] := fun hz => nin2 (Nat.ne_of_lt (Nat.lt_of_lt_of_le hz x2)) (Nat.ne_of_lt (Nat.lt_of_lt_of_le hz y2))
      have c5 : Chg [h, t, H, D, T] hp hp₄ := (c3.mono sHD).add c4 sht
      repeat' walk_at "vc"
      refine alike_tup e1 e2 (c4.keep _ _ (iht x1') g3) (c4.keep _ _ (iht y1') g4) xy ⟨by omega, by omega⟩ (fun hp₅ c6 w1 w2 => ?_)
      have c7 : Chg [h, t, H, D, T] hp hp₅ := c5.add c6 (memC (.inr x2) (memC (.inr y2) memN))
      repeat' walk_at "vc"
      refine kp hp₅ _ _ c7 (c6.keep _ _ (ixy hlh) L4.c) (c6.keep _ _ (ixy hlt) L4.d) (c6.keep _ _ (ixy hlH) (c4.keep _ _ iH H3)) (c6.keep _ _ (ixy hlD) (c4.keep _ _ iD D3)) (c6.keep _ _ (ixy hlT) (c4.keep _ _ iT T3)) (W.rel.snoc a0 a1 r2) (by rw [List.length_append, List.length_singleton]; omega) (.inl ⟨x, y, _, _, rfl, ⟨w1, nM _ x2⟩, ⟨w2, nM _ y2⟩, by rw [List.length_append, List.length_singleton]; omega, by rw [List.length_append, List.length_singleton]; omega⟩) (fun hp₆ L6 i6 fin => ?_)
      repeat' walk_at "vc"
      exact stands_ok L6 i6 ⟨by rw [lift_length]; exact sx.h⟩ (fun hp₇ k7 => fin hp₇ k7)

theorem done_ok {X : Value → List O → Prop} {Q : V → List O → Prop} {hp : List O} {i j h t H D T : Nat} {M : List Nat} {b0 xs : List Int} {ds : List (Int × Int)} {vs : List V} {vp vb : V} (W : Wk hp 186 i j h t H D b0 xs ds) (hT : hp[T]? = some (.list vs)) (ht : ToldOk M hp vs) (nd : [h, t, H, D, T].Nodup) (hM : ∀ x ∈ [h, t, H, D, T], x ∈ M) (hML : ∀ x ∈ M, x < hp.length) (hb : Bd b0)
    (s : Side (b0.length ≤ 256 ∧ ds.length ≤ 1000 ∧ vs.length ≤ 1000)) (p1 : Plain hp vp) (p2 : Plain hp vb)
    (k : ∀ hp' xs' ds' vs', Chg [h, t, H, D, T] hp hp' → Wk hp' 186 i j h t H D b0 xs' ds' → hp'[T]? = some (.list vs') → ToldOk M hp' vs' → ds'.length ≤ ds.length + 1 → vs'.length ≤ vs.length + 1 → Q (.bool true) hp') : CallOK (pgo prog w p loose mean mg mb) (lev + 8) true ns 289 [.ref i, .ref H, .ref D, vp, vb, .ref T] hp X Q := by
  refine fn_run (xs := ["_law_land", "_law_heights", "_law_done_here", "_law_place", "_law_by", "_law_told_here"]) (fnAt_of rfl (by kernel_rfl) (fn6 fun _ _ _ _ _ _ => rfl) (by decide) (by decide) rfl rfl rfl) rfl (by decide +kernel) fun c hc => ?_
  have s' := s.h
  have hx := W.rel.length
  have sx : Side (xs.length ≤ 256) := ⟨by omega⟩
  have szx : Side ((xs.map V.int).length ≤ sizeLine) := ⟨by rw [List.length_map, sizeLine_eq]; omega⟩
  have z4 := sgl_len xs sx.h
  have szp : Side (((sgl xs).map pV).length ≤ sizeLine) := ⟨by rw [List.length_map, sizeLine_eq]; omega⟩
  repeat' walk_at "vc"
  refine at_m W.L.a W.L.b rfl mth_told ?_
  repeat' walk_at "vc"
  refine told_ok W.L.a W.L.b rfl W.L.c szx ?_
  have k1 : Keep hp (hp ++ [O.list (xs.map V.int)]) := Keep.refl.app
  have t1 := app_new (hp := hp) (o := O.list (xs.map V.int))
  have L1 := W.L.keep k1
  have n1 : hp.length ≤ (hp ++ [O.list (xs.map V.int)]).length := by simp
  generalize hp ++ [O.list (xs.map V.int)] = hp₁ at k1 t1 L1 n1 ⊢
  repeat' walk_at "vc"
  refine at_m L1.a L1.b rfl mth_seen ?_
  repeat' walk_at "vc"
  refine seen_ok L1 sx (fun hp₂ k2 f2 => ?_)
  have t2 := k2 _ _ t1
  have k3 : Keep hp hp₂ := k1.trans k2
  have n3 := keep_len k3
  generalize hp₁.length = S at f2 n1 ⊢
  clear t1 L1 k1 k2 hp₁
  repeat' walk_at "vc"
  have hA := app_new (hp := hp₂) (o := O.list [V.ref hp.length, V.ref S])
  have k4 : Keep hp (hp₂ ++ [O.list [V.ref hp.length, V.ref S]]) := k3.app
  have t4 := app_get (t := [O.list [V.ref hp.length, V.ref S]]) t2
  have f4 := app_get (t := [O.list [V.ref hp.length, V.ref S]]) f2
  generalize hp₂ ++ [O.list [V.ref hp.length, V.ref S]] = hp₃ at hA k4 t4 f4 ⊢
  generalize hp₂.length = A at hA n3 ⊢
  clear k3 t2 f2 hp₂
  have n4 := keep_len k4
  repeat' (first | walk_at "vc" | refine sb_ref hA ⟨by decide, by decide⟩ rfl ?_ | refine sb_ref (app_get hA) ⟨by decide, by decide⟩ rfl ?_)
  · exact szx
  · exact szp
  have hB : (hp₃ ++ [O.list (xs.map V.int)] ++ [O.list ((sgl xs).map pV)] ++ [O.list [V.ref hp₃.length, V.ref (hp₃ ++ [O.list (xs.map V.int)]).length]])[(hp₃ ++ [O.list (xs.map V.int)] ++ [O.list ((sgl xs).map pV)]).length]? = some (O.list [V.ref hp₃.length, V.ref (hp₃ ++ [O.list (xs.map V.int)]).length]) := app_new
  have b1 : (hp₃ ++ [O.list (xs.map V.int)] ++ [O.list ((sgl xs).map pV)] ++ [O.list [V.ref hp₃.length, V.ref (hp₃ ++ [O.list (xs.map V.int)]).length]])[hp₃.length]? = some (O.list (xs.map V.int)) := app_get (app_get app_new)
  have b2 : (hp₃ ++ [O.list (xs.map V.int)] ++ [O.list ((sgl xs).map pV)] ++ [O.list [V.ref hp₃.length, V.ref (hp₃ ++ [O.list (xs.map V.int)]).length]])[(hp₃ ++ [O.list (xs.map V.int)]).length]? = some (O.list ((sgl xs).map pV)) := app_get app_new
  have m1 : hp₃.length ≤ (hp₃ ++ [O.list (xs.map V.int)]).length := by simp
  have m2 : hp₃.length ≤ (hp₃ ++ [O.list (xs.map V.int)] ++ [O.list ((sgl xs).map pV)]).length := by simp
  have k5 : Keep hp (hp₃ ++ [O.list (xs.map V.int)] ++ [O.list ((sgl xs).map pV)] ++ [O.list [V.ref hp₃.length, V.ref (hp₃ ++ [O.list (xs.map V.int)]).length]]) := k4.app.app.app
  have hA5 := app_get (t := [O.list [V.ref hp₃.length, V.ref (hp₃ ++ [O.list (xs.map V.int)]).length]]) (app_get (t := [O.list ((sgl xs).map pV)]) (app_get (t := [O.list (xs.map V.int)]) hA))
  have t5 := app_get (t := [O.list [V.ref hp₃.length, V.ref (hp₃ ++ [O.list (xs.map V.int)]).length]]) (app_get (t := [O.list ((sgl xs).map pV)]) (app_get (t := [O.list (xs.map V.int)]) t4))
  have f5 := app_get (t := [O.list [V.ref hp₃.length, V.ref (hp₃ ++ [O.list (xs.map V.int)]).length]]) (app_get (t := [O.list ((sgl xs).map pV)]) (app_get (t := [O.list (xs.map V.int)]) f4))
  generalize hp₃ ++ [O.list (xs.map V.int)] ++ [O.list ((sgl xs).map pV)] ++ [O.list [V.ref hp₃.length, V.ref (hp₃ ++ [O.list (xs.map V.int)]).length]] = hp₄ at hB b1 b2 k5 hA5 t5 f5 ⊢
  generalize (hp₃ ++ [O.list (xs.map V.int)] ++ [O.list ((sgl xs).map pV)]).length = B at hB m2 ⊢
  generalize (hp₃ ++ [O.list (xs.map V.int)]).length = B2 at hB b2 m1 ⊢
  generalize hp₃.length = B1 at *
  clear hA k4 t4 f4 hp₃
  refine ss_if ?_
  repeat' walk_at "vc"
  refine goes_ok (W.keep k5) (k5 _ _ hT) (ht.chg (M' := M) k5.chg (fun _ h => h)) nd hM (fun x hx => Nat.lt_of_lt_of_le (hML x hx) (keep_len k5)) hb s (plain_keep p1 k5) (plain_keep p2 k5) (fun hp' xs' ds' vs' c1 W1 T1 t1 r1 r2 => ?_)
  have old : ∀ x ∈ [h, t, H, D, T], x < hp.length := fun x hx => hML x (hM x hx)
  have go : ∀ {z : Nat} {o : O}, hp₄[z]? = some o → hp.length ≤ z → hp'[z]? = some o := fun e hz => c1.keep _ _ (fun q => by have := old _ q; omega) e
  repeat' (first | walk_at "vc" | refine cmp_two (go hA5 (by omega)) (go hB (by omega)) (go t5 (by omega)) (go f5 (by omega)) (go b1 (by omega)) (go b2 (by omega)) ?_)
  exact k hp' xs' ds' vs' (Chg.trans k5.chg c1) W1 T1 t1 r1 r2
theorem lifted_ok {X : Value → List O → Prop} {Q : V → List O → Prop} {hp : List O} {i j h t H D : Nat} {b0 : List Int} (W : Wk hp 186 i j h t H D b0 b0 []) (nd : [h, t, H, D].Nodup) (s : Side (0 < b0.length ∧ b0.length ≤ 256)) (hs : ∀ k : Int, 0 ≤ k → k < b0.length → -20000 ≤ g b0 k ∧ g b0 k ≤ 20000)
    (k : ∀ hp' xs' ds', Chg [h, t, H, D] hp hp' → Wk hp' 186 i j h t H D b0 xs' ds' → ds'.length ≤ 90 → Q .none hp') : CallOK (pgo prog w p loose mean mg mb) (lev + 6) true ns 275 [.ref i, .ref H, .ref D] hp X Q := by
  refine fn_run (xs := ["_law_land", "_law_heights", "_law_done_here"]) (fnAt_of rfl (by kernel_rfl) (fn3 fun _ _ _ => rfl) (by decide) (by decide) rfl rfl rfl) rfl (by decide +kernel) fun c hc => ?_
  have s' := s.h
  have HH := W.H
  simp only [List.nodup_cons, List.mem_cons, List.not_mem_nil, or_false, not_or, List.nodup_nil, and_true, not_false_eq_true] at nd
  obtain ⟨⟨n1, n2, n3⟩, ⟨n5, n6⟩, n8⟩ := nd
  have ML : ∀ x ∈ [h, t, H, D], ∃ vs, hp[x]? = some (O.list vs) := memC ⟨_, W.L.c⟩ (memC ⟨_, W.L.d⟩ (memC ⟨_, W.H⟩ (memC ⟨_, W.D⟩ memN)))
  have iH : H ∉ [h, t] := nin2 (Ne.symm n2) (Ne.symm n5)
  have iD : D ∉ [h, t] := nin2 (Ne.symm n3) (Ne.symm n6)
  have sht : ∀ x ∈ [h, t], x ∈ [h, t, H, D] := memC (.head _) (memC (.tail _ (.head _)) memN)
  have mH : H ∈ [h, t, H, D] := .tail _ (.tail _ (.head _))
  have mD : D ∈ [h, t, H, D] := .tail _ (.tail _ (.tail _ (.head _)))
  have sl : Side (b0.length < 2 ^ 62) := ⟨by omega⟩
  refine ss_cut (fun l hp' => ∃ xs' ds', Chg [h, t, H, D] hp hp' ∧ Wk hp' 186 i j h t H D b0 xs' ds' ∧ ds'.length ≤ 90) ?_ ?_
  · refine s_for1 (by walk_at "cx") (by kernel_rfl) rfl ?_
    refine i_range (by walk_at "cx") gl_range (by kernel_rfl) rfl ?_
    have hm : 0 ≤ (30 : Int) + 60 * (if decide ((b0.length : Int) < 10) = true then 1 else 0) ∧ (30 : Int) + 60 * (if decide ((b0.length : Int) < 10) = true then 1 else 0) ≤ 90 := by split <;> decide
    repeat' walk_at "vc"
    all_goals first | exact sl | walk_at "side" | exact ⟨by omega⟩ | skip
    generalize (30 : Int) + 60 * (if decide ((b0.length : Int) < 10) = true then 1 else 0) = m at hm ⊢
    refine ⟨fun k l hp' => (∃ xs' ds', Chg [h, t, H, D] hp hp' ∧ Wk hp' 186 i j h t H D b0 xs' ds' ∧ ds'.length = k ∧ ∀ z : Int, 0 ≤ z → z < b0.length → -20000 ≤ g xs' z ∧ g xs' z ≤ 20000 + 2 * k) ∧ l "_law_land" = some (.ref i) ∧ l "_law_heights" = some (.ref H) ∧ l "_law_done_here" = some (.ref D), ⟨⟨b0, [], .refl, W, rfl, fun z z0 z1 => by have := hs z z0 z1; omega⟩, by walk_at "nm", by walk_at "nm", by walk_at "nm"⟩, fun _ _ _ _ => trivial, ?_, ?_⟩
    rotate_left
    · rintro l hp' ⟨⟨xs', ds', c1, W1, d1, _⟩, _⟩
      rw [rngItems_length] at d1
      exact ⟨rfl, xs', ds', c1, W1, by omega⟩
    rintro k hk l hp' ⟨⟨xs, ds, c1, W1, d1, b1⟩, g1, g2, g3⟩
    rw [rngItems_get, Int.zero_add]
    rw [rngItems_length] at hk
    have hx := W1.rel.length
    have H1 := W1.H
    have D1 := W1.D
    have sp : Side (0 < (xs.length : Int)) := ⟨by omega⟩
    have sx : Side (xs.length < 2 ^ 62) := ⟨by omega⟩
    have ma := Int.emod_lt_of_pos ((k : Int) * 7) (b := xs.length) (by omega)
    have ma' := Int.emod_nonneg ((k : Int) * 7) (b := xs.length) (by omega)
    have mb1 := Int.emod_lt_of_pos (k : Int) (b := 2) (by omega)
    have mb2 := Int.emod_nonneg (k : Int) (b := 2) (by omega)
    repeat' walk_at "vc"
    all_goals first | exact sx | walk_at "side" | skip
    refine at_m W1.L.a W1.L.b rfl mth_lift ?_
    repeat' walk_at "vc"
    all_goals first | walk_at "side" | skip
    generalize (k : Int) * 7 % (xs.length : Int) = a at ma ma' ⊢
    generalize he : (k : Int) % 2 = e at mb1 mb2 ⊢
    have ba := b1 a ma' (by omega)
    have dk : dueOf xs (.int a) (.int (1 + e)) = .ok a (1 + e) := due_ok ma' ma (by omega) (by omega)
    refine lift_ok W1.L ⟨by omega, by omega⟩ trivial trivial (fun q => by rw [dk] at q; cases q) (fun q => by rw [dk] at q; cases q) (fun a' b' q hp₁ x y c2 L2 x1 y1 xy e1 e2 => ?_)
    rw [dk] at q
    cases q
    have H2 := c2.keep _ _ iH H1
    have D2 := c2.keep _ _ iD D1
    have c3 : Chg [h, t, H, D] hp hp₁ := c1.trans (c2.mono sht)
    repeat' walk_at "vc"
    refine aug_ints H2 ⟨by omega⟩ ?_
    repeat' walk_at "vc"
    all_goals first | walk_at "side" | skip
    refine ⟨_, rfl, rfl, ?_⟩
    rw [he, show xs.set a.toNat (augI .Add (g xs a) (1 + e)) = lift xs a (1 + e) from rfl]
    have H3 : (hp₁.set H (O.list ((lift xs a (1 + e)).map V.int)))[H]? = _ := set_at H2
    have D3 : (hp₁.set H (O.list ((lift xs a (1 + e)).map V.int)))[D]? = _ := set_get D2 n8
    have c4 : Chg [h, t, H, D] hp (hp₁.set H (O.list ((lift xs a (1 + e)).map V.int))) := c3.set (.inl mH)
    have h3 : (hp₁.set H (O.list ((lift xs a (1 + e)).map V.int)))[h]? = _ := set_get L2.c (Ne.symm n2)
    have t3 : (hp₁.set H (O.list ((lift xs a (1 + e)).map V.int)))[t]? = _ := set_get L2.d (Ne.symm n5)
    generalize hp₁.set H (O.list ((lift xs a (1 + e)).map V.int)) = hp₂ at H3 D3 c4 h3 t3 ⊢
    show Ss _ _ _ _ _ _
    repeat' walk_at "vc"
    all_goals first | walk_at "side" | exact ⟨by rw [List.length_map, sizeLine_eq]; omega⟩ | skip
    rw [he, show V.tup [V.int a, V.int (1 + e)] = pV (a, 1 + e) from rfl, map_appP]
    have c5 : Chg [h, t, H, D] hp (hp₂.set D (O.list ((ds ++ [(a, 1 + e)]).map pV))) := c4.set (.inl mD)
    refine ⟨⟨lift xs a (1 + e), ds ++ [(a, 1 + e)], c5, ⟨W.L.of c5 ML (set_get h3 (Ne.symm n3)) (set_get t3 (Ne.symm n6)), set_get H3 (Ne.symm n8), set_at D3, W1.rel.snoc ma' ma (by omega)⟩, by simp; omega, fun z z0 z1 => ?_⟩, by walk_at "nm", by walk_at "nm", by walk_at "nm"⟩
    rw [g_lift ma' ma z0]
    have := b1 z z0 z1
    split <;> omega
  rintro l hp' ⟨xs', ds', c1, W1, d1⟩
  repeat' walk_at "vc"
  exact k hp' xs' ds' c1 W1 d1
theorem all_back_ok {X : Value → List O → Prop} {Q : V → List O → Prop} {hp : List O} {i j h t H D : Nat} {b0 xs : List Int} {ds : List (Int × Int)} (W : Wk hp 186 i j h t H D b0 xs ds) (nd : [h, t, H, D].Nodup) (hb : Bd b0) (s : Side (b0.length ≤ 256 ∧ ds.length ≤ 1000))
    (k : ∀ hp', Chg [h, t, H, D] hp hp' → hp'[H]? = some (.list (b0.map .int)) → Q (.bool true) hp') : CallOK (pgo prog w p loose mean mg mb) (lev + 7) true ns 282 [.ref i, .ref H, .ref D] hp X Q := by
  refine fn_run (xs := ["_law_land", "_law_heights", "_law_done_here"]) (fnAt_of rfl (by kernel_rfl) (fn3 fun _ _ _ => rfl) (by decide) (by decide) rfl rfl rfl) rfl (by decide +kernel) fun c hc => ?_
  have s' := s.h
  simp only [List.nodup_cons, List.mem_cons, List.not_mem_nil, or_false, not_or, List.nodup_nil, and_true, not_false_eq_true] at nd
  obtain ⟨⟨n1, n2, n3⟩, ⟨n5, n6⟩, n8⟩ := nd
  have ML : ∀ x ∈ [h, t, H, D], ∃ vs, hp[x]? = some (O.list vs) := memC ⟨_, W.L.c⟩ (memC ⟨_, W.L.d⟩ (memC ⟨_, W.H⟩ (memC ⟨_, W.D⟩ memN)))
  have iH : H ∉ [h, t] := nin2 (Ne.symm n2) (Ne.symm n5)
  have iD : D ∉ [h, t] := nin2 (Ne.symm n3) (Ne.symm n6)
  have sht : ∀ x ∈ [h, t], x ∈ [h, t, H, D] := memC (.head _) (memC (.tail _ (.head _)) memN)
  have mH : H ∈ [h, t, H, D] := .tail _ (.tail _ (.head _))
  have mD : D ∈ [h, t, H, D] := .tail _ (.tail _ (.tail _ (.head _)))
  refine ss_cut (fun l hp' => Chg [h, t, H, D] hp hp' ∧ Wk hp' 186 i j h t H D b0 b0 [] ∧ l "_law_land" = some (.ref i) ∧ l "_law_heights" = some (.ref H)) ?_ ?_
  · refine s_while (fun m l hp' => (∃ xs' ds', m = ds'.length ∧ Chg [h, t, H, D] hp hp' ∧ Wk hp' 186 i j h t H D b0 xs' ds' ∧ ds'.length ≤ 1000) ∧ l "_law_land" = some (.ref i) ∧ l "_law_heights" = some (.ref H) ∧ l "_law_done_here" = some (.ref D)) ds.length ⟨⟨xs, ds, rfl, .refl, W, s'.2⟩, by walk_at "nm", by walk_at "nm", by walk_at "nm"⟩ ?_
    rintro m l hp₁ ⟨⟨xs₁, ds₁, rfl, c1, W1, d1⟩, g1, g2, g3⟩
    have hx := W1.rel.length
    repeat' (first | walk_at "vc" | refine cmp_pairs_ne (ys := []) (app_get W1.D) app_new ?_)
    have W2 := W1.keep (Keep.refl.app (t := [O.list []]))
    have c2 : Chg [h, t, H, D] hp (hp₁ ++ [O.list []]) := c1.app
    generalize hp₁ ++ [O.list []] = hp₂ at W2 c2 ⊢
    rcases snoc_cases ds₁ with e | ⟨es, ⟨a, b⟩, rfl⟩
    · subst e
      rw [show decide (([] : List (Int × Int)) = []) = true by simp]
      repeat' walk_at "vc"
      have eb := W2.rel.done
      subst eb
      exact ⟨rfl, c2, W2, g1, g2⟩
    rw [show decide (es ++ [(a, b)] = ([] : List (Int × Int))) = false by simp]
    have D2 : hp₂[D]? = some (.list (es.map pV ++ [V.tup [.int a, .int b]])) := by rw [W2.D, List.map_append]; rfl
    obtain ⟨⟨a0, a1⟩, r1, r2⟩ := W2.rel.pop hb
    rw [List.length_append, List.length_singleton] at d1
    repeat' walk_at "vc"
    · exact ⟨by rw [List.length_map, sizeLine_eq]; omega⟩
    refine ⟨_, _, rfl, ?_⟩
    have D3 : (hp₂.set D (O.list (es.map pV)))[D]? = _ := set_at D2
    have H3 : (hp₂.set D (O.list (es.map pV)))[H]? = _ := set_get W2.H (Ne.symm n8)
    have c3 : Chg [h, t, H, D] hp (hp₂.set D (O.list (es.map pV))) := c2.set (.inl mD)
    have L3 : LandIs (hp₂.set D (O.list (es.map pV))) 186 i j h t xs₁ (es ++ [(a, b)]) := W.L.of c3 ML (set_get W2.L.c (Ne.symm n3)) (set_get W2.L.d (Ne.symm n6))
    generalize hp₂.set D (O.list (es.map pV)) = hp₃ at D3 H3 c3 L3 ⊢
    show Ss _ _ _ _ _ _
    refine ss_if ?_
    repeat' walk_at "vc"
    refine told_back_ok L3 ⟨by omega, by rw [List.length_append, List.length_singleton]; omega⟩ W2.rel.mem (fun q => by simp at q) (fun ds' a' b' e hp₄ x y c4 L4 x1 y1 xy e1 e2 => ?_)
    obtain ⟨q1, q2⟩ := List.append_inj' e rfl
    subst q1
    injection q2 with q2 _
    injection q2 with q2 q3
    subst q2; subst q3
    have H4 := c4.keep _ _ iH H3
    have D4 := c4.keep _ _ iD D3
    have c5 : Chg [h, t, H, D] hp hp₄ := c3.trans (c4.mono sht)
    repeat' walk_at "vc"
    refine aug_ints H4 ⟨by omega⟩ ?_
    repeat' walk_at "vc"
    refine ⟨_, rfl, rfl, ?_⟩
    rw [show xs₁.set a.toNat (augI .Sub (g xs₁ a) b) = lift xs₁ a (-b) from by show xs₁.set a.toNat (g xs₁ a - b) = xs₁.set a.toNat (g xs₁ a + -b); rw [Int.sub_eq_add_neg]]
    have c6 : Chg [h, t, H, D] hp (hp₄.set H (O.list ((lift xs₁ a (-b)).map V.int))) := c5.set (.inl mH)
    show Ss _ _ _ _ _ _
    repeat' walk_at "vc"
    exact ⟨es.length, by rw [List.length_append, List.length_singleton]; omega, ⟨_, es, rfl, c6, ⟨W.L.of c6 ML (set_get L4.c (Ne.symm n2)) (set_get L4.d (Ne.symm n5)), set_at H4, set_get D4 n8, r1⟩, by omega⟩, by walk_at "nm", by walk_at "nm", by walk_at "nm"⟩
  rintro l hp₁ ⟨c1, W1, g1, g2⟩
  repeat' walk_at "vc"
  refine told_back_ok W1.L ⟨by omega, by simp⟩ (fun _ h => by cases h) (fun _ t' => ?_) (fun ds' a b e => by simp at e)
  have k1 : Keep hp₁ (hp₁ ++ t') := Keep.refl.app
  generalize hp₁ ++ t' = hp₂ at k1 ⊢
  repeat' (first | (show Cmp _ _ _ _ _ _ _ _; refine cmp_str_eq strOk_nd ?_) | walk_at "vc")
  refine stands_ok (W1.L.keep k1) (k1 _ _ W1.H) ⟨by omega⟩ (fun hp₃ k3 => ?_)
  exact k hp₃ ((c1.trans k1.chg).trans k3.chg) (k3 _ _ (k1 _ _ W1.H))

theorem landAt_is {hp : List O} {C : Addr} {xs : List Int} : LandIs (hp ++ landAt C hp (xs.map .int)) C (hp.length + 1) hp.length (hp.length + 2) (hp.length + 3) xs [] :=
  ⟨by simp, by simp, by simp, by simp, by omega⟩
theorem ss_locals {c : Cx} {X : XP} {l : Lo} {hp : List O} {ss : List Stmt} {K : KF} (P : Lo → Prop) (h : P l) (k : ∀ l', P l' → Ss c X ss l' hp K) : Ss c X ss l hp K := k l h
theorem mul_tilt {k m t : Int} (h0 : 0 ≤ k) (h1 : k ≤ m) (t0 : -1 ≤ t) (t1 : t ≤ 1) : -m ≤ k * t ∧ k * t ≤ m := by
  have : t = -1 ∨ t = 0 ∨ t = 1 := by omega
  rcases this with rfl | rfl | rfl <;> omega
theorem sq_le {k : Nat} (h : k < 30) : (k : Int) * k ≤ 900 ∧ 0 ≤ (k : Int) * k := by
  have h1 : k * k ≤ 30 * 30 := Nat.mul_le_mul (by omega) (by omega)
  have h2 : ((k * k : Nat) : Int) = (k : Int) * k := by simp
  omega
theorem law_ok {s₁ : Shared} {fa a : Addr} {vals : List Value} {R : Result → Shared → Prop}
    (T : Top p loose mean mg mb s₁.heap) (KX : (Mine.hd10.heap_1 w.params).In s₁.heap) (hmg : mg "law" = some (.ref fa)) (hL : s₁.heap.IsList a vals.toArray) (hI : IntsAre vals ns) (hn : ns.length ≤ 63)
    (hR : ∀ s' m', Fr s₁.heap s₁.heap.objs.size s'.heap m' → s'.gens = s₁.gens → s'.os = s₁.os → R (.ok (.ret (.bool true))) s') : codeAny (model prog w) callerA (.call (.ref fa) ⟨[.ref a], []⟩) R s₁ := by
  refine law_go (pg := pgo prog w p loose mean mg mb) (f := 301) (x := "_law_script") T KX hmg hL hI hn (by kernel_rfl) (fnAt_of rfl (by kernel_rfl) (fn1 fun _ => rfl) (by decide) (by decide) rfl rfl rfl) (by decide +kernel) hR fun c hc => ?_
  have hn' : ns.length < 2 ^ 62 := by omega
  have m1 := Int.emod_lt_of_pos (cell ns 0) (b := 9) (by omega)
  have m2 := Int.emod_nonneg (cell ns 0) (b := 9) (by omega)
  repeat' (first | refine e_sliceScr (by walk_at "cx") (by walk_at "nm") ⟨hn⟩ (fun ks hks => ?_) | walk_at "vc" | refine cell_at_ok hn' ?_ ?_)
  all_goals try walk_at "side"
  refine ss_cut (fun l hp => ∃ (sz : Int) (dk : Nat) (ks : List Int), (1 ≤ sz ∧ sz ≤ 29) ∧ ks.length ≤ 63 ∧ hp[dk]? = some (.list (ks.map .int)) ∧ l "_law_size" = some (.int sz) ∧ l "_law_deeds" = some (.ref dk) ∧ l "_law_script" = some .scr) ?_ ?_
  · refine s_if ?_
    repeat' (first | walk_at "vc" | refine cell_at_ok hn' ?_ ?_)
    all_goals try walk_at "side"
    refine if_decide (fun q => ?_) (fun q => ?_)
    · repeat' (first | refine e_sliceScr (by walk_at "cx") (by walk_at "nm") ⟨hn⟩ (fun ks' hks' => ?_) | walk_at "vc" | refine cell_at_ok hn' ?_ ?_)
      exact ⟨rfl, 1 + cell ns 0 % 9 + 20, _, ks', ⟨by omega, by omega⟩, hks', by walk_at "hp", by walk_at "nm", by walk_at "nm", by walk_at "nm"⟩
    · repeat' walk_at "vc"
      exact ⟨rfl, 1 + cell ns 0 % 9, _, ks, ⟨by omega, by omega⟩, hks, by walk_at "hp", by walk_at "nm", by walk_at "nm", by walk_at "nm"⟩
  clear hks ks m1 m2
  rintro l hp ⟨sz, dk, ks, ⟨z1, z2⟩, hks, hd, l1, l2, l3⟩
  refine ss_cut (fun l hp => ∃ (sz : Int) (dk : Nat) (ks : List Int), (1 ≤ sz ∧ sz ≤ 59) ∧ ks.length ≤ 63 ∧ hp[dk]? = some (.list (ks.map .int)) ∧ l "_law_size" = some (.int sz) ∧ l "_law_deeds" = some (.ref dk) ∧ l "_law_script" = some .scr) ?_ ?_
  · refine s_if ?_
    repeat' (first | walk_at "vc" | refine cell_at_ok hn' ?_ ?_)
    all_goals try walk_at "side"
    refine if_decide (fun q => ?_) (fun q => ?_)
    · repeat' (first | refine e_sliceScr (by walk_at "cx") (by walk_at "nm") ⟨hn⟩ (fun ks' hks' => ?_) | walk_at "vc" | refine cell_at_ok hn' ?_ ?_)
      exact ⟨rfl, sz + 30, _, ks', ⟨by omega, by omega⟩, hks', by walk_at "hp", by walk_at "nm", by walk_at "nm", by walk_at "nm"⟩
    · repeat' walk_at "vc"
      exact ⟨rfl, sz, _, ks, ⟨by omega, by omega⟩, hks, by walk_at "hp", by walk_at "nm", by walk_at "nm", by walk_at "nm"⟩
  clear l1 l2 l3 l hd hks z1 z2 ks dk sz hp
  rintro l hp ⟨sz, dk, ks, ⟨z1, z2⟩, hks, hd, l1, l2, l3⟩
  have u1 := Int.emod_lt_of_pos (cell ns 2) (b := 3) (by omega)
  have u2 := Int.emod_nonneg (cell ns 2) (b := 3) (by omega)
  repeat' (first | walk_at "vc" | refine cell_at_ok hn' ?_ ?_)
  all_goals try walk_at "side"
  generalize etl : cell ns 2 % 3 - 1 = tilt
  have t1 : -1 ≤ tilt := by omega
  have t2 : tilt ≤ 1 := by omega
  clear etl u1 u2
  refine i_range (by walk_at "cx") gl_range (by kernel_rfl) rfl ?_
  repeat' walk_at "vc"
  · walk_at "side"
  refine comp_ints (by walk_at "cx") (by kernel_rfl) (fun _ x => -20000 ≤ x ∧ x ≤ 20000) ?_ (fun _ => trivial) ?_ ?_
  · rw [rngItems_length, sizeLine_eq]; omega
  · intro k hk vs hv
    refine ⟨_, tgt1, fun c' hc' => ?_⟩
    rw [rngItems_get, Int.zero_add]
    rw [rngItems_length] at hk
    have w1 := Int.emod_lt_of_pos (k : Int) (b := 9) (by omega)
    have w2 := Int.emod_nonneg (k : Int) (b := 9) (by omega)
    repeat' (first | walk_at "vc" | refine cell_at_ok hn' ?_ ?_)
    all_goals first | walk_at "side" | exact ⟨by omega, by omega⟩ | skip
    refine ⟨rfl, _, rfl, ?_⟩
    have w3 := mul_tilt (k := k) (m := 60) (by omega) (by omega) t1 t2
    generalize (k : Int) * tilt = kt at w3 ⊢
    generalize cell ns 1 / ((k : Int) % 9 + 1) = y
    omega
  intro ys hy hb
  rw [rngItems_length] at hy
  refine ss_cut (fun l hp => ∃ (bb : Nat) (b0 : List Int), hp[bb]? = some (.list (b0.map .int)) ∧ (b0.length : Int) = sz ∧ (∀ (j : Nat) (hj : j < b0.length), -20000 ≤ b0[j] ∧ b0[j] ≤ 20000) ∧ hp[dk]? = some (.list (ks.map .int)) ∧ l "_law_size" = some (.int sz) ∧ l "_law_deeds" = some (.ref dk) ∧ l "_law_script" = some .scr ∧ l "_law_begun" = some (.ref bb)) ?_ ?_
  · refine s_if ?_
    have no : ∀ (l' : Lo) (hp' : List O), l' "_law_size" = some (.int sz) → True := fun _ _ _ => trivial
    repeat' (first | walk_at "vc" | refine cell_at_ok hn' ?_ ?_)
    all_goals try walk_at "side"
    refine if_decide (fun q => ?_) (fun q => ?_)
    · repeat' walk_at "vc"
      refine if_decide (fun q2 => ?_) (fun q2 => ?_)
      · repeat' walk_at "vc"
        refine i_range (by walk_at "cx") gl_range (by kernel_rfl) rfl ?_
        repeat' walk_at "vc"
        · walk_at "side"
        refine comp_ints (by walk_at "cx") (by kernel_rfl) (fun _ x => -20000 ≤ x ∧ x ≤ 20000) ?_ (fun _ => trivial) ?_ ?_
        · rw [rngItems_length, sizeLine_eq]; omega
        · intro k hk vs hv
          refine ⟨_, tgt1, fun c' hc' => ?_⟩
          rw [rngItems_get, Int.zero_add]
          rw [rngItems_length] at hk
          repeat' walk_at "vc"
          all_goals first | walk_at "side" | skip
          refine ⟨rfl, _, rfl, ?_⟩
          have w3 := mul_tilt (k := k) (m := 60) (by omega) (by omega) t1 t2
          have w4 := sq_le (k := k) (by omega)
          generalize (k : Int) * tilt = kt at w3 ⊢
          generalize (k : Int) * (k : Int) = kk at w4 ⊢
          omega
        intro zs hz hb'
        rw [rngItems_length] at hz
        repeat' walk_at "vc"
        exact ⟨rfl, _, zs, by walk_at "hp", by omega, hb', by walk_at "hp", by walk_at "nm", by walk_at "nm", by walk_at "nm", by walk_at "nm"⟩
      · repeat' walk_at "vc"
        exact ⟨rfl, _, ys, by walk_at "hp", by omega, hb, by walk_at "hp", by walk_at "nm", by walk_at "nm", by walk_at "nm", by walk_at "nm"⟩
    · repeat' walk_at "vc"
      exact ⟨rfl, _, ys, by walk_at "hp", by omega, hb, by walk_at "hp", by walk_at "nm", by walk_at "nm", by walk_at "nm", by walk_at "nm"⟩
  clear hy hb ys l1 l2 l3 l hd t1 t2 tilt hp
  rintro l hp ⟨bb, b0, hbb, hb0, hbd, hd, l1, l2, l3, l4⟩
  have gbd : ∀ k : Int, 0 ≤ k → k < b0.length → -20000 ≤ g b0 k ∧ g b0 k ≤ 20000 := fun k k0 k1 => by
    have hk : k.toNat < b0.length := by omega
    have := hbd k.toNat hk
    rw [g_nat hk] at this
    rw [show ((k.toNat : Nat) : Int) = k by omega] at this
    exact this
  have hBd : Bd b0 := fun k k0 k1 => by have := gbd k k0 k1; omega
  have hgood : goodL (b0.map .int) = true := good_ints (by omega) (by omega) fun z hz => by
    obtain ⟨j, hj, rfl⟩ := List.getElem_of_mem hz
    have := hbd j hj
    omega
  have szl : (b0.map V.int).length < 2 ^ 20 := by rw [List.length_map]; omega
  have szb : Side ((b0.map V.int).length ≤ sizeLine) := ⟨by rw [List.length_map, sizeLine_eq]; omega⟩
  have hbl := get_lt hbb
  have hdl := get_lt hd
  generalize hN : hp.length = N at hbl hdl
  repeat' walk_at "vc"
  · exact szb
  rw [hN]
  have e1 : (hp ++ [O.list (b0.map V.int)])[N]? = some (.list (b0.map .int)) := hN ▸ app_new
  have e2 := app_get (t := [O.list (b0.map V.int)]) hbb
  have e3 := app_get (t := [O.list (b0.map V.int)]) hd
  have e4 : (hp ++ [O.list (b0.map V.int)]).length = N + 1 := by simp [hN]
  generalize hp ++ [O.list (b0.map V.int)] = hp₁ at e1 e2 e3 e4 ⊢
  clear hbb hd hN hp
  repeat' walk_at "vc"
  refine land_good e1 plain_ints szl hgood ?_
  have k2 : Keep hp₁ (hp₁ ++ landAt 186 hp₁ (b0.map .int)) := Keep.refl.app
  have LA := landAt_is (hp := hp₁) (C := 186) (xs := b0)
  have e5 : (hp₁ ++ landAt 186 hp₁ (b0.map .int)).length = N + 5 := by simp [e4]
  generalize hp₁ ++ landAt 186 hp₁ (b0.map .int) = hp₂ at k2 LA e5 ⊢
  rw [e4] at LA ⊢
  replace e1 := k2 _ _ e1
  replace e2 := k2 _ _ e2
  replace e3 := k2 _ _ e3
  clear k2 e4 hp₁
  repeat' walk_at "vc"
  refine land_good e1 plain_ints szl hgood ?_
  have k2 : Keep hp₂ (hp₂ ++ landAt 186 hp₂ (b0.map .int)) := Keep.refl.app
  have LB := landAt_is (hp := hp₂) (C := 186) (xs := b0)
  have e6 : (hp₂ ++ landAt 186 hp₂ (b0.map .int)).length = N + 9 := by simp [e5]
  generalize hp₂ ++ landAt 186 hp₂ (b0.map .int) = hp₃ at k2 LB e6 ⊢
  rw [e5] at LB ⊢
  replace e1 := k2 _ _ e1
  replace e2 := k2 _ _ e2
  replace e3 := k2 _ _ e3
  replace LA := LA.keep k2
  clear k2 e5 hp₂
  repeat' walk_at "vc"
  · exact szb
  · exact szb
  have k3 : Keep hp₃ (hp₃ ++ [O.list (b0.map V.int)] ++ [O.list (b0.map V.int)] ++ [O.list []] ++ [O.list []]) := Keep.refl.app.app.app.app
  have f1 : (hp₃ ++ [O.list (b0.map V.int)] ++ [O.list (b0.map V.int)] ++ [O.list []] ++ [O.list []])[hp₃.length]? = some (.list (b0.map .int)) := app_get (app_get (app_get app_new))
  have f2 : (hp₃ ++ [O.list (b0.map V.int)] ++ [O.list (b0.map V.int)] ++ [O.list []] ++ [O.list []])[(hp₃ ++ [O.list (b0.map V.int)]).length]? = some (.list (b0.map .int)) := app_get (app_get app_new)
  have f3 : (hp₃ ++ [O.list (b0.map V.int)] ++ [O.list (b0.map V.int)] ++ [O.list []] ++ [O.list []])[(hp₃ ++ [O.list (b0.map V.int)] ++ [O.list (b0.map V.int)]).length]? = some (.list []) := app_get app_new
  have f4 : (hp₃ ++ [O.list (b0.map V.int)] ++ [O.list (b0.map V.int)] ++ [O.list []] ++ [O.list []])[(hp₃ ++ [O.list (b0.map V.int)] ++ [O.list (b0.map V.int)] ++ [O.list []]).length]? = some (.list []) := app_new
  have q1 : (hp₃ ++ [O.list (b0.map V.int)]).length = N + 10 := by simp [e6]
  have q2 : (hp₃ ++ [O.list (b0.map V.int)] ++ [O.list (b0.map V.int)]).length = N + 11 := by simp [e6]
  have q3 : (hp₃ ++ [O.list (b0.map V.int)] ++ [O.list (b0.map V.int)] ++ [O.list []]).length = N + 12 := by simp [e6]
  have q4 : (hp₃ ++ [O.list (b0.map V.int)] ++ [O.list (b0.map V.int)] ++ [O.list []] ++ [O.list []]).length = N + 13 := by simp [e6]
  generalize hp₃ ++ [O.list (b0.map V.int)] ++ [O.list (b0.map V.int)] ++ [O.list []] ++ [O.list []] = hp₄ at k3 f1 f2 f3 f4 q4 ⊢
  rw [q3] at f4 ⊢
  rw [q2] at f3 ⊢
  rw [q1] at f2 ⊢
  rw [e6] at f1 ⊢
  replace e1 := k3 _ _ e1
  replace e2 := k3 _ _ e2
  replace e3 := k3 _ _ e3
  replace LA := LA.keep k3
  replace LB := LB.keep k3
  clear k3 q1 q2 q3 e6 hp₃
  have s0 : St10 186 N bb dk b0 ks hp₄ 0 b0 [] b0 [] [] := .start ⟨LA, f1, f3, .nil⟩ LB f2 f4 gbd e2 e1 e3 q4 hbl hdl
  clear LA LB f1 f2 f3 f4 e1 e2 e3
  have nd4 : (atN N [3, 4, 9, 11]).Nodup := nodN rfl
  have nd5 : (atN N [3, 4, 9, 11, 12]).Nodup := nodN rfl
  refine ss_locals (fun l => Nms l N bb sz ∧ l "_law_deeds" = some (.ref dk) ∧ l "_law_script" = some .scr) ⟨⟨by walk_at "nm", by walk_at "nm", by walk_at "nm", by walk_at "nm", by walk_at "nm", by walk_at "nm", by walk_at "nm", by walk_at "nm", by walk_at "nm"⟩, by walk_at "nm", by walk_at "nm"⟩ (fun l nl => ?_)
  have n1 := nl.1.land
  have n2 := nl.1.heights
  have n3 := nl.1.done
  have n4 := nl.1.size
  have n5 := nl.2.2
  refine ss_cut (fun l hp => (∃ xs ds, St10 186 N bb dk b0 ks hp 0 xs ds b0 [] []) ∧ Nms l N bb sz ∧ l "_law_deeds" = some (.ref dk)) ?_ ?_
  · refine s_if ?_
    repeat' (first | walk_at "vc" | refine cell_at_ok hn' ?_ ?_)
    all_goals try walk_at "side"
    refine if_decide (fun q => ?_) (fun q => ?_)
    · repeat' walk_at "vc"
      refine if_decide (fun q2 => ?_) (fun q2 => ?_)
      · repeat' walk_at "vc"
        refine lifted_ok s0.W nd4 ⟨by omega, by omega⟩ gbd (fun hp' xs' ds' c1 W1 d1 => ?_)
        repeat' walk_at "vc"
        exact ⟨rfl, ⟨xs', ds', s0.lifted c1 W1 d1⟩, nl.1, nl.2.1⟩
      · repeat' walk_at "vc"
        exact ⟨rfl, ⟨b0, [], s0⟩, nl.1, nl.2.1⟩
    · repeat' walk_at "vc"
      exact ⟨rfl, ⟨b0, [], s0⟩, nl.1, nl.2.1⟩
  clear n1 n2 n3 n4 n5 nl l l1 l2 l3 l4 s0 q4
  rintro l hp ⟨⟨xs, ds, s⟩, n, l10⟩
  refine ss_cut (fun l hp => (∃ xs ds x2 d2 vs, St10 186 N bb dk b0 ks hp ks.length xs ds x2 d2 vs) ∧ Nms l N bb sz) ?_ ?_
  · refine s_for1 (by walk_at "cx") (by kernel_rfl) rfl ?_
    refine i_val ?_
    repeat' walk_at "vc"
    refine srv_ref (by walk_at "cx") s.d ?_
    refine ⟨fun k l hp => (∃ xs ds x2 d2 vs, St10 186 N bb dk b0 ks hp k xs ds x2 d2 vs) ∧ Nms l N bb sz, ⟨⟨xs, ds, b0, [], [], s⟩, n⟩, fun k l hp h => h.1.elim fun xs h => h.elim fun ds h => h.elim fun x2 h => h.elim fun d2 h => h.elim fun vs h => h.d, ?_, fun l hp h => ⟨rfl, by rw [List.length_map] at h; exact h⟩⟩
    clear n s l10 l hp xs ds
    rintro k hk l hp ⟨⟨xs, ds, x2, d2, vs, s⟩, n⟩
    have n1 := n.size
    have n2 := n.second
    have n3 := n.other
    have n4 := n.told
    have n5 := n.land
    have n6 := n.heights
    have n7 := n.done
    have b4 := s.n4
    have w1 := s.n1
    have w2 := s.n2
    have w3 := s.n3
    have w4 := s.len
    rw [List.length_map] at hk
    rw [List.getElem_map]
    generalize ks[k] = cl
    refine ss_if ?_
    repeat' walk_at "vc"
    all_goals first | walk_at "side" | skip
    refine if_decide (fun q => ?_) (fun q => ?_)
    · have ma := Int.emod_lt_of_pos (cl / 11) (b := sz) (by omega)
      have ma' := Int.emod_nonneg (cl / 11) (b := sz) (by omega)
      have sp : Side (0 < sz) := ⟨by omega⟩
      repeat' walk_at "vc"
      all_goals first | walk_at "side" | skip
      generalize cl / 11 % sz = pl at ma ma' ⊢
      have bp := s.r pl ma' (by omega)
      have ma2 : pl < x2.length := by omega
      have dk1 : dueOf x2 (.int pl) (.int 1) = .ok pl 1 := due_ok ma' ma2 (by omega) (by omega)
      have s256 : x2.length ≤ 256 := by omega
      refine due_by_ok s.S ⟨s256⟩ trivial trivial (fun z => by rw [dk1] at z; cases z) (fun z => by rw [dk1] at z; cases z) (fun a b z hp₁ x' y' k1 x1' y1' i1 i2 => ?_)
      rw [dk1] at z
      cases z
      have H3 := k1 _ _ s.S
      repeat' walk_at "vc"
      refine aug_ints H3 ⟨ma', ma2, by omega⟩ ?_
      repeat' walk_at "vc"
      refine ⟨_, rfl, rfl, ?_⟩
      rw [show x2.set pl.toNat (augI .Add (g x2 pl) 1) = lift x2 pl 1 from rfl]
      have new : ∀ {z a : Nat}, hp.length ≤ z → a < 13 → N + a ≠ z := fun h1 h2 => by omega
      have H4 : (hp₁.set (N + 10) (O.list ((lift x2 pl 1).map V.int)))[N + 10]? = _ := set_at H3
      have j1 : (hp₁.set (N + 10) (O.list ((lift x2 pl 1).map V.int)))[x']? = _ := set_get i1 (new x1' (by decide))
      have j2 : (hp₁.set (N + 10) (O.list ((lift x2 pl 1).map V.int)))[y']? = _ := set_get i2 (new y1' (by decide))
      have c2 : Chg (atN N [10]) hp (hp₁.set (N + 10) (O.list ((lift x2 pl 1).map V.int))) := (Keep.chg k1).set (.inl (.head _))
      generalize hp₁.set (N + 10) (O.list ((lift x2 pl 1).map V.int)) = hp₂ at H4 j1 j2 c2 ⊢
      have L3 := s.L.chg c2 (memC ⟨_, s.S⟩ memN) (ninN rfl) (ninN rfl)
      show Ss _ _ _ _ _ _
      repeat' walk_at "vc"
      refine told_lift_ok L3 ⟨s256, by omega⟩ trivial trivial rfl (fun z => by rw [dk1] at z; cases z) (fun z => by rw [dk1] at z; cases z) (fun a' b' z hp₃ x y c3 L4 x1 y1 xy i3 i4 => ?_)
      rw [dk1] at z
      cases z
      have x3 : hp.length ≤ x := Nat.le_trans c2.len x1
      have y3 : hp.length ≤ y := Nat.le_trans c2.len y1
      have c3' : Chg (atN N [7, 8]) hp₂ hp₃ := c3
      have c4 : Chg (atN N [7, 8, 10, 12]) hp hp₃ := (c2.mono (subN rfl)).add c3' (subN' rfl)
      have ax := sgl_len x2 s256
      have ay := sgl_len (lift x2 pl 1) (by rw [lift_length]; exact s256)
      have az := Nat.le_trans (lack_len (sgl (lift x2 pl 1)) (sgl x2)) ay
      have aw := Nat.le_trans (lack_len (sgl x2) (sgl (lift x2 pl 1))) ax
      have ixy : ∀ {a : Nat}, a < 13 → N + a ∉ [x, y] := fun h => nin2 (new x3 h) (new y3 h)
      refine ss_if ?_
      repeat' walk_at "vc"
      refine alike_tup i3 i4 (c3'.keep _ _ (ninA (k := 13) rfl (Nat.le_trans w4 x1')) j1) (c3'.keep _ _ (ninA (k := 13) rfl (Nat.le_trans w4 y1')) j2) xy ⟨az, aw⟩ (fun hp₅ c5 w1 w2 => ?_)
      have c6 : Chg (atN N [7, 8, 10, 12]) hp hp₅ := c4.add c5 (memC (.inr x3) (memC (.inr y3) memN))
      have T5 : hp₅[N + 12]? = some (.list vs) := c5.keep _ _ (ixy (by decide)) (c3'.keep _ _ (ninN rfl) (c2.keep _ _ (ninN rfl) s.T))
      have H5 := c5.keep _ _ (ixy (by decide)) (c3'.keep _ _ (ninN rfl) H4)
      have h5 := c5.keep _ _ (ixy (a := 7) (by decide)) L4.c
      have t5 := c5.keep _ _ (ixy (a := 8) (by decide)) L4.d
      have w5 : N + 13 ≤ hp₅.length := Nat.le_trans w4 c6.len
      repeat' walk_at "vc"
      refine kept_ok T5 (s.t.chg c6 (subN rfl)) (.tail _ (.tail _ (.tail _ (.tail _ (.head _))))) (ltN (k := 13) rfl w5) ⟨by omega⟩ (.inl ⟨x, y, _, _, rfl, ⟨w1, ninA (k := 13) rfl (Nat.le_trans w4 x3)⟩, ⟨w2, ninA (k := 13) rfl (Nat.le_trans w4 y3)⟩, by rw [List.length_append, List.length_singleton]; omega, by rw [List.length_append, List.length_singleton]; omega⟩) (fun hp₆ vs' c7 T7 t7 r7 => ?_)
      have c7' : Chg (atN N [12]) hp₅ hp₆ := c7
      have c8 : Chg (atN N [7, 8, 10, 12]) hp hp₆ := c6.add c7' (subN' rfl)
      have L8 := s.L.of c8 s.lo (c7'.keep _ _ (ninN rfl) h5) (c7'.keep _ _ (ninN rfl) t5)
      have H8 := c7'.keep _ _ (ninN rfl) H5
      repeat' walk_at "vc"
      refine stands_ok L8 H8 ⟨by rw [lift_length]; exact s256⟩ (fun hp₇ k8 => ?_)
      repeat' walk_at "vc"
      refine ⟨⟨xs, ds, lift x2 pl 1, d2 ++ [(pl, 1)], vs', s.two (c8.trans k8.chg) (L8.keep k8) (k8 _ _ H8) (k8 _ _ T7) (t7.chg (M' := []) k8.chg memN) (by rw [List.length_append]; exact Nat.le_refl _) r7 (lift_length ..) (fun z z0 z1 => ?_)⟩, (((n.put rfl).put rfl).put rfl).put rfl⟩
      rw [g_lift ma' ma2 z0]
      have := s.r z z0 z1
      split <;> omega
    · have hxl := s.W.rel.length
      repeat' walk_at "vc"
      refine deed_ok s.W.H ⟨by omega, by omega⟩ (fun vp vb hp₁ k1 p1 p2 => ?_)
      refine ⟨_, _, rfl, ?_⟩
      show Ss _ _ _ _ _ _
      refine ss_if ?_
      repeat' walk_at "vc"
      refine done_ok (s.W.keep k1) (k1 _ _ s.T) (s.t.chg (M' := []) k1.chg memN) nd5 (subN (N := N) (L := [3, 4, 9, 11, 12]) (L' := [3, 4, 9, 11, 12, 7, 8, 10]) rfl) (ltN (k := 13) rfl (Nat.le_trans w4 (keep_len k1))) hBd ⟨by omega, by omega, by omega⟩ p1 p2 (fun hp' xs' ds' vs' c1 W1 T1 t1 r1 r2 => ?_)
      repeat' walk_at "vc"
      exact ⟨⟨xs', ds', x2, d2, vs', s.main ((Keep.chg k1).trans c1) W1 T1 t1 r1 r2⟩, ((n.put rfl).put rfl).put rfl⟩
  clear n s l10 l hp xs ds
  rintro l hp ⟨⟨xs, ds, x2, d2, vs, s⟩, n⟩
  have n2 := n.second
  have n3 := n.other
  have n4 := n.told
  have n5 := n.land
  have n6 := n.heights
  have n7 := n.done
  have n8 := n.begun
  have n9 := n.handed
  have w1 := s.n1
  have w3 := s.n3
  have b4 := s.n4
  refine ss_if ?_
  repeat' walk_at "vc"
  refine all_back_ok s.W nd4 hBd ⟨by omega, by omega⟩ (fun hp₆ c6 h6 => ?_)
  have c6' : Chg (atN N [3, 4, 9, 11]) hp hp₆ := c6
  have g2 := c6'.keep _ _ (ninB hbl) s.b
  have g1 := c6'.keep _ _ (ninN (a := 0) rfl) s.h
  repeat' (first | walk_at "vc" | refine cmp_ints_ne h6 g2 ?_)
  rw [show decide (b0 = b0) = true by simp]
  have L6 := s.L.chg c6' s.l4 (ninN rfl) (ninN rfl)
  have H6 := c6'.keep _ _ (ninN rfl) s.S
  have T6 := c6'.keep _ _ (ninN rfl) s.T
  repeat' walk_at "vc"
  refine kept_ok T6 (s.t.chg c6' (subN rfl)) (.tail _ (.tail _ (.tail _ (.tail _ (.head _))))) (ltN (k := 13) rfl (Nat.le_trans s.len c6'.len)) ⟨by omega⟩ (.inr (.inr rfl)) (fun hp₇ vs' c7 _ _ _ => ?_)
  have c7' : Chg (atN N [12]) hp₆ hp₇ := c7
  have L7 := L6.chg c7' (memC ⟨_, T6⟩ memN) (ninN rfl) (ninN rfl)
  have H7 := c7'.keep _ _ (ninN rfl) H6
  replace g1 := c7'.keep _ _ (ninN (a := 0) rfl) g1
  replace g2 := c7'.keep _ _ (ninB hbl) g2
  repeat' walk_at "vc"
  refine stands_ok L7 H7 ⟨by omega⟩ (fun hp₈ k8 => ?_)
  repeat' (first | walk_at "vc" | refine cmp_ints_eq (k8 _ _ g1) (k8 _ _ g2) ?_)
  rw [show decide (b0 = b0) = true by simp]

end
end Mine
open PySem PySem.W PySem.Calls PySem.Spec PyProof.Rows
set_option maxRecDepth 100000 in
set_option maxHeartbeats 8000000 in
theorem PySem.Challenge.cw_uf050038_10_holds : PySem.Challenge.rw_uf050038_10.Holds :=
  Mine.both_of Mine.hd10 Mine.left10 (by
  intro w s₀ s₁ mg mb G Y fa o pm cd doc dV kV ho hd hcd hD hmg hg args vals as hpre hlay hrd hwl hlo
  have KX := kIn_of Y
  refine Ground.open G ?_
  intro T B D TE TW
  wrow_args hpre hlay hrd hwl hlo
  all_goals first | refine callC_kw (enter_call ?_) | refine enter_call ?_ | refine callC_kw (enter_callW ?_) | refine enter_callW ?_
  refine codeAny_mono ?_ (fun _ _ g => GoodW.toG g)
  refine Mine.law_ok T KX hmg (by assumption) (by assumption) ?_ ?_
  · omega
  · intro s' m' F e1 e2
    refine goodW_bool F (e1.trans hg) (fun _ => rfl) ?_ e2
    wrow_post)
