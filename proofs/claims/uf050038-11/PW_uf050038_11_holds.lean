import PyProof.Rows.All
import Wide.All
import OpenK.AllK
import Wide.FinOn
import PyProof.Rows.Many
import PyProof.WalksMore
import PyProof.PlainList
import PyProof.TupleKey
import PyProof.DictKinds
import OpenK.KMake
import PyProof.Rows.News
import OpenK.KWalk
import OpenK.KCell
import KE.KTryMore
import PyProof.Cells
import PyProof.Rows.Nodes
import PyProof.Rows.Chain
import PyProof.Rows.TupSub
import PyProof.Rows.Own
import PyProof.Rows.IntRules
import PyProof.Raises
import PyProof.Rules2
import PyProof.ForAny
import PyProof.Rows.SeqInts
import PyProof.IsRules
import PyProof.ListTruth
import PyProof.Truth
import PyProof.Rows.RuleB_small
import PyProof.Rows.RuleB_mul
import PyProof.Rows.RuleB_mod
import PyProof.Rows.RuleB_floordiv
import PyProof.Rows.RuleU_int
import PyProof.Rows.RuleC_int
import PyProof.Rows.EqDataRows
import PyProof.Rows.SeqMore
import PyProof.IsiPairs
import PyProof.IsiNone
import PyProof.IsInstanceH
import PyProof.WalkInts
import PyProof.ListCopy
import PyProof.RangeFor
import PyProof.Methods
import PyProof.PureCalls
import PyProof.ListIndex
import PyProof.ListIndexNeg
import PyProof.Conv_int_bool
import PyProof.FactsAll.list_3
import PyProof.Rows.RuleN_abs
import PyProof.Rows.StrTemp
import PyProof.Rows.Method
import PyProof.Rows.Exc
import PyProof.Rows.StrRules
import PyProof.CompFree
import PyProof.CompMap
import PyProof.Rows.TupIter
import PyProof.Rows.TupAssign
import PyProof.RulesAssignMore
import KE.KItem
import KE.KPop
import OpenK.KOwn
import KE.KSliceW
import KE.KRevSl
import PyProof.ConsumeWalk
import PyProof.ZipIter
import PyProof.Rows.ZipGen
import PyProof.LayNew
import KE.KIsAll
import PyProof.ExcArgs
import KE.KMulAny
import PyProof.Rows.SeqCalls
import KE.KEqDeep
import PyProof.FactsAll.tuple_2
import PyProof.Rows.TupTab
import PyProof.Rows.DictMade
import PyProof.DictRoadsH
import PyProof.Rows.SortRuns
import PyProof.Rows.SortShell
import KE.KSortTup
import PyProof.Rows.SortWalk
import PyProof.AssignAttr
import PyProof.Rows.AttrNode
import PyProof.TupleOfSeq
import PyProof.Rows.DictMod
import PyProof.StrOps2
import PyProof.StrBlockH
import PyProof.StrBlock2
import PyProof.StrCalls3
import PyProof.StrLoop
import PyProof.StrWalks
import PyProof.CallStr
import PyProof.P3In
import PyProof.Rows.StrLen
import PyProof.FactsAll.str_ascii_iterator_1
import KE.KIntText
import PyProof.StrLawsTight
import PyProof.StrLawsIdx
import PyProof.StrLawsIn
import PyProof.StrLawsFirst
import PyProof.Rows.CatFin
import PySem.Challenge.RW_uf050038_11
set_option Elab.async false
set_option linter.all false
open PySem PySem.W PySem.Calls PySem.Spec PyProof.Rows

set_option autoImplicit false
namespace Mine
open PySem PySem.Calls PySem.Spec PyProof.Rows

/-! Abstract values and objects -/
inductive V where
  | none
  | bool (b : Bool)
  | int (n : Int)
  | str (s : Str)
  | tup (vs : List V)
  | ref (i : Nat)
  | scr
  | glob (v : Value)

inductive O where
  | list (vs : List V)
  | exn (C : Addr)
  | tab (ks : List (List Int))
  | inst (C : Addr) (j : Nat)
  | att (es : List (Str × V))
  | dic

structure St where
  loc : Str → Option V
  hp : List O

def setN (l : Str → Option V) (x : Str) (v : V) : Str → Option V := fun y => if y = x then some v else l y
def St.set (σ : St) (x : Str) (v : V) : St := ⟨setN σ.loc x v, σ.hp⟩

/-- where the abstract objects lie -/
structure Wd where
  al : List Addr
  tp : List (Addr × List Value)
  sc : Addr

def Wd.le (W W' : Wd) : Prop := W.al <+: W'.al ∧ (∀ t ∈ W.tp, t ∈ W'.tp) ∧ W.sc = W'.sc
theorem Wd.le.refl (W : Wd) : W.le W := ⟨List.prefix_refl _, fun _ h => h, rfl⟩
theorem Wd.le.trans {W W' W'' : Wd} (a : W.le W') (b : W'.le W'') : W.le W'' := ⟨a.1.trans b.1, fun t h => b.2.1 t (a.2.1 t h), a.2.2.trans b.2.2⟩

mutual
inductive VR (W : Wd) : V → Value → Prop
  | none : VR W .none .none
  | bool (b : Bool) : VR W (.bool b) (.bool b)
  | int (n : Int) (t : Tok) : VR W (.int n) (.int n t)
  | str (x : Str) (t : Tok) : VR W (.str x) (.str x t)
  | tup {vs : List V} {xs : List Value} {a : Addr} : (a, xs) ∈ W.tp → VRs W vs xs → VR W (.tup vs) (.ref a)
  | ref {i : Nat} {a : Addr} : W.al[i]? = some a → VR W (.ref i) (.ref a)
  | scr : VR W .scr (.ref W.sc)
  | glob (v : Value) : VR W (.glob v) v
inductive VRs (W : Wd) : List V → List Value → Prop
  | nil : VRs W [] []
  | cons {v : V} {vs : List V} {x : Value} {xs : List Value} : VR W v x → VRs W vs xs → VRs W (v :: vs) (x :: xs)
end

theorem prefix_get {α : Type} {l l' : List α} {i : Nat} {a : α} (h : l <+: l') (e : l[i]? = some a) : l'[i]? = some a := by
  obtain ⟨t, rfl⟩ := h
  rw [List.getElem?_append_left (by
    rcases Nat.lt_or_ge i l.length with q | q
    · exact q
    · rw [List.getElem?_eq_none q] at e; cases e)]
  exact e

mutual
theorem VR.mono {W W' : Wd} (h : W.le W') : ∀ {v : V} {x : Value}, VR W v x → VR W' v x
  | _, _, .none => .none
  | _, _, .bool b => .bool b
  | _, _, .int n t => .int n t
  | _, _, .str x t => .str x t
  | _, _, .tup m r => .tup (h.2.1 _ m) (VRs.mono h r)
  | _, _, .ref e => .ref (prefix_get h.1 e)
  | _, _, .scr => h.2.2 ▸ .scr
  | _, _, .glob v => .glob v
theorem VRs.mono {W W' : Wd} (h : W.le W') : ∀ {vs : List V} {xs : List Value}, VRs W vs xs → VRs W' vs xs
  | _, _, .nil => .nil
  | _, _, .cons a r => .cons (VR.mono h a) (VRs.mono h r)
end

theorem VRs.length {W : Wd} : ∀ {vs : List V} {xs : List Value}, VRs W vs xs → vs.length = xs.length
  | _, _, .nil => rfl
  | _, _, .cons _ r => by simp [VRs.length r]
theorem VRs.append {W : Wd} : ∀ {vs ws : List V} {xs ys : List Value}, VRs W vs xs → VRs W ws ys → VRs W (vs ++ ws) (xs ++ ys)
  | _, _, _, _, .nil => fun r => r
  | _, _, _, _, .cons a q => fun r => .cons a (VRs.append q r)
theorem VRs.get {W : Wd} : ∀ {vs : List V} {xs : List Value}, VRs W vs xs → ∀ {i : Nat} {v : V}, vs[i]? = some v → ∃ x, xs[i]? = some x ∧ VR W v x
  | _, _, .nil => by intro h; simp at h
  | _, _, .cons a r => by
    rename_i i v _ _ _ _
    intro h
    cases i with
    | zero => simp at h; subst h; exact ⟨_, rfl, a⟩
    | succ i => simpa using VRs.get r (by simpa using h)
theorem VRs.take {W : Wd} : ∀ {vs : List V} {xs : List Value}, VRs W vs xs → ∀ (n : Nat), VRs W (vs.take n) (xs.take n)
  | _, _, _, 0 => by simpa using .nil
  | _, _, .nil, n + 1 => .nil
  | _, _, .cons a r, n + 1 => .cons a (VRs.take r n)
theorem VRs.drop {W : Wd} : ∀ {vs : List V} {xs : List Value}, VRs W vs xs → ∀ (n : Nat), VRs W (vs.drop n) (xs.drop n)
  | _, _, h, 0 => by simpa using h
  | _, _, .nil, n + 1 => by simpa using .nil
  | _, _, .cons a r, n + 1 => by simpa using VRs.drop r n

abbrev tupObj (xs : List Value) : Obj := { cls := .type "tuple", data := .seq xs.toArray 0 }
abbrev listObj (xs : List Value) (n : Nat) : Obj := { cls := .type "list", data := .seq xs.toArray n }

/-- the hash of a tuple of numbers -/
def tabHash (ks : List Int) : Int := reduceHash (Builtin.Tuple.tupleHashOf (ks.map hashInt))
def AttE (W : Wd) : List (Str × V) → List DictEntry → Prop
  | [], [] => True
  | (x, v) :: es, d :: ds => (∃ t, d.key = .str x t) ∧ VR W v d.val ∧ AttE W es ds
  | _, _ => False
theorem AttE.mono {W W' : Wd} (h : W.le W') : ∀ {es : List (Str × V)} {ds : List DictEntry}, AttE W es ds → AttE W' es ds
  | [], [], _ => trivial
  | (_, _) :: _, _ :: _, ⟨a, b, c⟩ => ⟨a, b.mono h, AttE.mono h c⟩
  | [], _ :: _, x => x.elim
  | _ :: _, [], x => x.elim

inductive OR (W : Wd) : O → Addr → Obj → Prop
  | list {a : Addr} {vs : List V} {xs : List Value} (n : Nat) : VRs W vs xs → OR W (.list vs) a (listObj xs n)
  | exn {a C : Addr} {ob : Obj} {vs : Array Value} : ob.cls = .ref C → ob.data = .fields vs → OR W (.exn C) a ob
  | tab {a : Addr} {ks : List (List Int)} {ob : Obj} {es : Array DictEntry} {ep : Nat} {xs : List (List Int × Addr × Value)} : (a == sysModules) = false → ob.ExactDict → ob.data = .dict es ep → es.toList = xs.map (fun x => (⟨tabHash x.1, .ref x.2.1, x.2.2⟩ : DictEntry)) →
      xs.map (·.1) = ks → ks.Nodup → (∀ x ∈ xs, ∃ us, (x.2.1, us) ∈ W.tp ∧ VRs W (x.1.map .int) us) → OR W (.tab ks) a ob
  | inst {a C dx : Addr} {j : Nat} : W.al[j]? = some dx → OR W (.inst C j) a (PySem.W.instObj C dx)
  | att {a : Addr} {es : List (Str × V)} {ds : List DictEntry} {ep : Nat} : AttE W es ds → OR W (.att es) a { cls := .type "dict", data := .dict ds.toArray ep }
  | dic {a : Addr} {ob : Obj} : ob.cls = .type "dict" → OR W .dic a ob

theorem OR.mono {W W' : Wd} (h : W.le W') {o : O} {a : Addr} {ob : Obj} : OR W o a ob → OR W' o a ob
  | .list n r => .list n (r.mono h)
  | .exn a b => .exn a b
  | .tab a b c d e f g => .tab a b c d e f fun x hx => let ⟨us, h1, h2⟩ := g x hx; ⟨us, h.2.1 _ h1, h2.mono h⟩
  | .inst e => .inst (prefix_get h.1 e)
  | .att c => .att (c.mono h)
  | .dic a => .dic a

end Mine

set_option autoImplicit false
namespace Mine
open PySem PySem.W PySem.Calls PySem.Spec PyProof.Rows

/-- the program, its world, what stands at its top -/
structure Pg where
  prog : Program
  w : World
  K : Frag
  p : Program
  loose : List Str
  mean : ExcName → Option Value
  mg : Str → Option Value
  mb : Str → Option Value

/-- the value of a name at the top -/
def Pg.gl (pg : Pg) (x : Str) : Option Value :=
  match nsIn pg.K mainGlobals x with
  | some (some v) => some v
  | some none => if x = "__name__" then none else bootBuiltins x
  | none => none

/-- a frame: what does not change while its body runs -/
structure Fx where
  pg : Pg
  A : Around
  env : Env
  fenv : Env
  outer : List Env
  A₀ : Around
  base : Heap
  h₀ : Heap
  L : Addr
  ex : List (Addr × Obj)
  s₀ : Shared
  sc : Addr
  ns : List Int
  lev : Nat
  mfix : Option (Str → Option Value)
  qt : Bool

abbrev Fx.M (fx : Fx) : Model := model fx.pg.prog fx.pg.w

/-- a name-space object says x is u -/
def NsSays (o : Obj) (x : Str) (u : Value) : Prop := ∃ es ep, o.data = .dict es ep ∧ StrKeys es ∧ nsFind es x = some u

inductive NameAt (fx : Fx) (m : Str → Option Value) (news : List (Addr × Obj)) (x : Str) (u : Value) : Prop
  | loc : fx.env.kindOf x = some .local → fx.env.locals = fx.L → m x = some u → NameAt fx m news x u
  | comp {o : Obj} : fx.env.kindOf x = some .local → (fx.env.locals, o) ∈ fx.ex → NsSays o x u → NameAt fx m news x u
  | cell {c : Addr} {o : Obj} : fx.env.kindOf x = some .cell ∨ fx.env.kindOf x = some .free → fx.env.cells.lookup x = some c → (c, o) ∈ news → o.data = .cell (some u) → NameAt fx m news x u

structure Core (fx : Fx) (σ : St) (W : Wd) (m : Str → Option Value) (news : List (Addr × Obj)) : Prop where
  nd : (news.map (·.1)).Nodup
  exs : ∀ p ∈ fx.ex, p ∈ news
  exd : ∀ p ∈ fx.ex, p.1 ∉ W.al
  aln : W.al.Nodup
  len : W.al.length = σ.hp.length
  obs : ∀ (i : Nat) (o : O), σ.hp[i]? = some o → ∃ a ob, W.al[i]? = some a ∧ (a, ob) ∈ news ∧ OR W o a ob
  tps : ∀ t ∈ W.tp, (t.1, tupObj t.2) ∈ news
  loc : ∀ x v, σ.loc x = some v → ∃ u, VR W v u ∧ NameAt fx m news x u
  cel : ∀ x c, fx.env.cells.lookup x = some c → c ∉ W.al ∧ ∃ o v, (c, o) ∈ news ∧ o.data = .cell v
  scc : W.sc = fx.sc
  mfx : ∀ m₀, fx.mfix = some m₀ → m = m₀
  ext : ∀ p ∈ fx.ex, ∀ t ∈ W.tp, p.1 ≠ t.1

structure Rep (fx : Fx) (σ : St) (W : Wd) (s : Shared) : Prop where
  rest : s = { fx.s₀ with heap := s.heap, toks := s.toks }
  more : ∃ g m news, KtsTurn (fx.outer.filterMap (·.frame)) fx.h₀ g ∧ Fr g fx.L s.heap m ∧ News g fx.L s.heap news ∧ Core fx σ W m news

theorem Rep.elim {fx : Fx} {σ : St} {W : Wd} {s : Shared} {P : Prop} (R : Rep fx σ W s) (k : s = { fx.s₀ with heap := s.heap, toks := s.toks } → ∀ g m news, KtsTurn (fx.outer.filterMap (·.frame)) fx.h₀ g → Fr g fx.L s.heap m → News g fx.L s.heap news → Core fx σ W m news → P) : P := by
  obtain ⟨e, g, m, news, G, F, N, C⟩ := R
  exact k e g m news G F N C
theorem rest_with {s s₀ : Shared} (e : s = { s₀ with heap := s.heap, toks := s.toks }) (h : Heap) (t : Nat) : ({ s with heap := h, toks := t } : Shared) = { s₀ with heap := h, toks := t } := by
  rw [e]

theorem frKeeps {h₀ h h' : Heap} {L : Addr} {m : Str → Option Value} (F : Fr h₀ L h m) (k : ∀ b o, h.get? b = some o → h'.get? b = some o) : Fr h₀ L h' m :=
  ⟨F.ns.keeps k, fun b o e => k b o (F.keep b o e), F.above⟩
theorem newsKeeps {h₀ h h' : Heap} {L : Addr} {news : List (Addr × Obj)} (N : News h₀ L h news) (k : ∀ b o, h.get? b = some o → h'.get? b = some o) : News h₀ L h' news :=
  fun p hp => ⟨k _ _ (N p hp).1, (N p hp).2⟩

theorem Rep.keep {fx : Fx} {σ : St} {W : Wd} {s : Shared} (R : Rep fx σ W s) {h' : Heap} (tk : Nat) (k : ∀ b o, s.heap.get? b = some o → h'.get? b = some o) : Rep fx σ W { s with heap := h', toks := tk } := by
  refine R.elim fun e g m news G F N C => ?_
  exact ⟨rest_with e _ _, g, m, news, G, frKeeps F k, newsKeeps N k, C⟩

theorem Rep.toks {fx : Fx} {σ : St} {W : Wd} {s : Shared} (R : Rep fx σ W s) (tk : Nat) : Rep fx σ W { s with toks := tk } := by
  refine R.elim fun e g m news G F N C => ?_
  exact ⟨rest_with e _ _, g, m, news, G, F, N, C⟩

theorem newsNodup {h₀ h : Heap} {L : Addr} {news : List (Addr × Obj)} (N : News h₀ L h news) (nd : (news.map (·.1)).Nodup) (o : Obj) : (((h.objs.size, o) :: news).map (·.1)).Nodup := by
  rw [List.map_cons, List.nodup_cons]
  refine ⟨fun hm => ?_, nd⟩
  obtain ⟨p, hp, e⟩ := List.mem_map.mp hm
  have := Heap.lt_size (N p hp).1
  rw [show p.1 = h.objs.size from e] at this
  exact Nat.lt_irrefl _ this

theorem NameAt.mono {fx : Fx} {m : Str → Option Value} {news news' : List (Addr × Obj)} {x : Str} {u : Value} (h : ∀ p ∈ news, p ∈ news') : NameAt fx m news x u → NameAt fx m news' x u
  | .loc a b c => .loc a b c
  | .comp a b c => .comp a b c
  | .cell a b c d => .cell a b (h _ c) d

theorem Core.al_lt {fx : Fx} {σ : St} {W : Wd} {m : Str → Option Value} {news : List (Addr × Obj)} (C : Core fx σ W m news) {a : Addr} (ha : a ∈ W.al) : ∃ o, (a, o) ∈ news := by
  obtain ⟨i, hi, rfl⟩ := List.getElem_of_mem ha
  have hi' : i < σ.hp.length := C.len ▸ hi
  obtain ⟨a, ob, h1, h2, _⟩ := C.obs i σ.hp[i] (by simp [hi'])
  rw [List.getElem?_eq_getElem hi] at h1
  cases h1
  exact ⟨ob, h2⟩

/-- a new object of the abstract heap -/
theorem Rep.alloc {fx : Fx} {σ : St} {W : Wd} {s : Shared} (R : Rep fx σ W s) {o : O} {ob : Obj} (tk : Nat) (hf : ob.isFreed = false)
    (hr : ∀ W', W.le W' → OR W' o s.heap.objs.size ob) :
    ∃ W', W.le W' ∧ W'.al = W.al ++ [s.heap.objs.size] ∧ Rep fx ⟨σ.loc, σ.hp ++ [o]⟩ W' { s with heap := s.heap.push ob, toks := tk } := by
  refine R.elim fun e g m news G F N C => ?_
  have hle : W.le ⟨W.al ++ [s.heap.objs.size], W.tp, W.sc⟩ := ⟨List.prefix_append _ _, fun _ h => h, rfl⟩
  refine ⟨⟨W.al ++ [s.heap.objs.size], W.tp, W.sc⟩, hle, rfl, rest_with e _ _, g, m, (s.heap.objs.size, ob) :: news, G, F.push ob, N.push F ob hf, ?_⟩
  have fresh : ∀ p ∈ news, p.1 ≠ s.heap.objs.size := fun p hp => Nat.ne_of_lt (Heap.lt_size (N p hp).1)
  refine ⟨newsNodup N C.nd ob, fun p hp => .tail _ (C.exs p hp), fun p hp hm => ?_, ?_, ?_, fun i o' h => ?_, fun t ht => .tail _ (C.tps t ht), fun x v h => ?_, fun x c h => ?_, C.scc, C.mfx, C.ext⟩
  · rcases List.mem_append.mp hm with hm | hm
    · exact C.exd p hp hm
    · exact fresh p (C.exs p hp) (List.mem_singleton.mp hm)
  · refine List.nodup_append.mpr ⟨C.aln, by simp, fun a ha b hb => ?_⟩
    rw [List.mem_singleton.mp hb]
    obtain ⟨o', ho'⟩ := C.al_lt ha
    exact fresh _ ho'
  · simp [C.len]
  · dsimp only at h
    rcases Nat.lt_trichotomy i σ.hp.length with q | q | q
    · rw [List.getElem?_append_left q] at h
      obtain ⟨a, ob', h1, h2, h3⟩ := C.obs i o' h
      exact ⟨a, ob', prefix_get hle.1 h1, .tail _ h2, h3.mono hle⟩
    · subst q
      simp at h
      subst h
      exact ⟨_, ob, by simp [← C.len], .head _, hr _ hle⟩
    · rw [List.getElem?_eq_none (by simp; omega)] at h
      cases h
  · obtain ⟨u, h1, h2⟩ := C.loc x v h
    exact ⟨u, h1.mono hle, h2.mono fun p hp => .tail _ hp⟩
  · obtain ⟨h1, o', v, h2, h3⟩ := C.cel x c h
    refine ⟨fun hm => ?_, o', v, .tail _ h2, h3⟩
    rcases List.mem_append.mp hm with hm | hm
    · exact h1 hm
    · exact fresh _ h2 (List.mem_singleton.mp hm)


/-- an object joins the abstract heap -/
theorem Core.add {fx : Fx} {σ : St} {W : Wd} {m : Str → Option Value} {news : List (Addr × Obj)} (C : Core fx σ W m news) {a : Addr} {ob : Obj} {o : O} (fresh : ∀ p ∈ news, p.1 ≠ a) (hr : ∀ W', W.le W' → OR W' o a ob) :
    Core fx ⟨σ.loc, σ.hp ++ [o]⟩ ⟨W.al ++ [a], W.tp, W.sc⟩ m ((a, ob) :: news) := by
  have hle : W.le ⟨W.al ++ [a], W.tp, W.sc⟩ := ⟨List.prefix_append _ _, fun _ h => h, rfl⟩
  refine ⟨?_, fun p hp => .tail _ (C.exs p hp), fun p hp hm => ?_, ?_, ?_, fun i o' h => ?_, fun t ht => .tail _ (C.tps t ht), fun x v h => ?_, fun x c h => ?_, C.scc, C.mfx, C.ext⟩
  · rw [List.map_cons, List.nodup_cons]
    refine ⟨fun hm => ?_, C.nd⟩
    obtain ⟨p, hp, e⟩ := List.mem_map.mp hm
    exact fresh p hp e
  · rcases List.mem_append.mp hm with hm | hm
    · exact C.exd p hp hm
    · exact fresh p (C.exs p hp) (List.mem_singleton.mp hm)
  · refine List.nodup_append.mpr ⟨C.aln, by simp, fun b hb b' hb' => ?_⟩
    rw [List.mem_singleton.mp hb']
    obtain ⟨o', ho'⟩ := C.al_lt hb
    exact fresh _ ho'
  · simp [C.len]
  · dsimp only at h
    rcases Nat.lt_trichotomy i σ.hp.length with q | q | q
    · rw [List.getElem?_append_left q] at h
      obtain ⟨b, ob', h1, h2, h3⟩ := C.obs i o' h
      exact ⟨b, ob', prefix_get hle.1 h1, .tail _ h2, h3.mono hle⟩
    · subst q
      simp at h
      subst h
      exact ⟨_, ob, by simp [← C.len], .head _, hr _ hle⟩
    · rw [List.getElem?_eq_none (by simp; omega)] at h
      cases h
  · obtain ⟨u, h1, h2⟩ := C.loc x v h
    exact ⟨u, h1.mono hle, h2.mono fun p hp => .tail _ hp⟩
  · obtain ⟨h1, o', v, h2, h3⟩ := C.cel x c h
    refine ⟨fun hm => ?_, o', v, .tail _ h2, h3⟩
    rcases List.mem_append.mp hm with hm | hm
    · exact h1 hm
    · exact fresh _ h2 (List.mem_singleton.mp hm)

/-- the same, by what a rule of the library gives -/
theorem Rep.addN {fx : Fx} {σ : St} {W : Wd} {s : Shared} (er : s = { fx.s₀ with heap := s.heap, toks := s.toks }) {g : Heap} {m : Str → Option Value} {news : List (Addr × Obj)} (G : KtsTurn (fx.outer.filterMap (·.frame)) fx.h₀ g) (C : Core fx σ W m news) {D : Addr} {ob : Obj} {o : O} {h' : Heap}
    (F' : Fr g fx.L h' m) (N' : News g fx.L h' ((D, ob) :: news)) (fresh : ∀ p ∈ news, p.1 ≠ D) (hr : ∀ W', W.le W' → OR W' o D ob) :
    ∃ W', W.le W' ∧ W'.al[σ.hp.length]? = some D ∧ Rep fx ⟨σ.loc, σ.hp ++ [o]⟩ W' { s with heap := h' } :=
  ⟨⟨W.al ++ [D], W.tp, W.sc⟩, ⟨List.prefix_append _ _, fun _ h => h, rfl⟩, by simp [← C.len], by rw [er], g, m, _, G, F', N', C.add fresh hr⟩

/-- a plain local is stored -/
theorem Rep.setLoc {fx : Fx} {σ : St} {W : Wd} {s : Shared} (R : Rep fx σ W s) {x : Str} {v : V} {u : Value} (hv : VR W v u) (hk : fx.env.kindOf x = some .local) (hL : fx.env.locals = fx.L) (hm : fx.mfix = none)
    (tk : Nat) {h' : Heap} {M : Str → Option Value} (hM : M x = some u) (hM' : ∀ y, y ≠ x → ∀ m, s.heap.Ns fx.L m → M y = m y) (hn : h'.Ns fx.L M) (hs : Heap.SameBut fx.L s.heap h') :
    Rep fx (σ.set x v) W { s with heap := h', toks := tk } := by
  refine R.elim fun e g m news G F N C => ?_
  refine ⟨rest_with e _ _, g, M, news, G, F.set hn hs, N.set hs, ?_⟩
  refine ⟨C.nd, C.exs, C.exd, C.aln, C.len, C.obs, C.tps, fun y w h => ?_, C.cel, C.scc, fun m₀ q => (by rw [hm] at q; cases q), C.ext⟩
  by_cases q : y = x
  · subst q
    simp [St.set, setN] at h
    subst h
    exact ⟨u, hv, .loc hk hL hM⟩
  · simp [St.set, setN, q] at h
    obtain ⟨u', h1, h2⟩ := C.loc y w h
    refine ⟨u', h1, ?_⟩
    cases h2 with
    | loc a b c => exact .loc a b ((hM' y q m F.ns).trans c)
    | comp a b c => exact .comp a b c
    | cell a b c d => exact .cell a b c d

/-- a plain local goes -/
theorem Rep.delLoc {fx : Fx} {σ : St} {W : Wd} {s : Shared} (R : Rep fx σ W s) {x : Str} (hm : fx.mfix = none) (hk : fx.env.kindOf x = some .local)
    (tk : Nat) {h' : Heap} {M : Str → Option Value} (hM' : ∀ y, y ≠ x → ∀ m, s.heap.Ns fx.L m → M y = m y) (hn : h'.Ns fx.L M) (hs : Heap.SameBut fx.L s.heap h') :
    Rep fx ⟨fun y => if y = x then none else σ.loc y, σ.hp⟩ W { s with heap := h', toks := tk } := by
  refine R.elim fun e g m news G F N C => ?_
  refine ⟨rest_with e _ _, g, M, news, G, F.set hn hs, N.set hs, ?_⟩
  refine ⟨C.nd, C.exs, C.exd, C.aln, C.len, C.obs, C.tps, fun y w h => ?_, C.cel, C.scc, fun m₀ q => (by rw [hm] at q; cases q), C.ext⟩
  dsimp only at h
  split at h
  · cases h
  · rename_i q
    obtain ⟨u', h1, h2⟩ := C.loc y w h
    refine ⟨u', h1, ?_⟩
    cases h2 with
    | loc a b c => exact .loc a b ((hM' y q m F.ns).trans c)
    | comp a b c => exact .comp a b c
    | cell a b c d => exact .cell a b c d

/-- what a frame stands under changes nothing of what it holds -/
theorem Core.cast {fx : Fx} {σ : St} {W : Wd} {m : Str → Option Value} {news : List (Addr × Obj)} {A A' : Around} {q q' : Bool} (C : Core { fx with A := A, qt := q } σ W m news) : Core { fx with A := A', qt := q' } σ W m news :=
  ⟨C.nd, C.exs, C.exd, C.aln, C.len, C.obs, C.tps, fun x v h => by
    obtain ⟨u, h1, h2⟩ := C.loc x v h
    refine ⟨u, h1, ?_⟩
    cases h2 with
    | loc a b c => exact .loc a b c
    | comp a b c => exact .comp a b c
    | cell a b c d => exact .cell a b c d, C.cel, C.scc, C.mfx, C.ext⟩
theorem Rep.cast {fx : Fx} {σ : St} {W : Wd} {s : Shared} {A A' : Around} {q q' : Bool} (R : Rep { fx with A := A, qt := q } σ W s) : Rep { fx with A := A', qt := q' } σ W s := by
  refine R.elim fun e g m news G F N C => ?_
  exact ⟨e, g, m, news, G, F, N, C.cast⟩

def setL (a : Addr) (ob : Obj) (news : List (Addr × Obj)) : List (Addr × Obj) := news.map fun p => if p.1 = a then (a, ob) else p
theorem setL_keys (a : Addr) (ob : Obj) (news : List (Addr × Obj)) : (setL a ob news).map (·.1) = news.map (·.1) := by
  unfold setL
  rw [List.map_map]
  refine List.map_congr_left fun p _ => ?_
  by_cases q : p.1 = a
  · simp [q]
  · simp [q]
theorem setL_self {a : Addr} {ob ob' : Obj} {news : List (Addr × Obj)} (h : (a, ob) ∈ news) : (a, ob') ∈ setL a ob' news := List.mem_map.mpr ⟨_, h, by simp⟩
theorem setL_ne {a : Addr} {ob' : Obj} {news : List (Addr × Obj)} {p : Addr × Obj} (h : p ∈ news) (q : p.1 ≠ a) : p ∈ setL a ob' news := List.mem_map.mpr ⟨_, h, by simp [q]⟩
theorem mem_setL {a : Addr} {ob' : Obj} {news : List (Addr × Obj)} {p : Addr × Obj} (h : p ∈ setL a ob' news) : (p = (a, ob') ∧ ∃ ob, (a, ob) ∈ news) ∨ (p ∈ news ∧ p.1 ≠ a) := by
  obtain ⟨q, hq, e⟩ := List.mem_map.mp h
  by_cases z : q.1 = a
  · simp [z] at e
    exact .inl ⟨e.symm, q.2, by rw [← z]; exact hq⟩
  · simp [z] at e
    subst e
    exact .inr ⟨hq, z⟩
theorem key_inj {news : List (Addr × Obj)} (nd : (news.map (·.1)).Nodup) {a : Addr} {o o' : Obj} (h : (a, o) ∈ news) (h' : (a, o') ∈ news) : o = o' := by
  induction news with
  | nil => cases h
  | cons p r ih =>
    rw [List.map_cons, List.nodup_cons] at nd
    rcases List.mem_cons.mp h with e | h
    · rcases List.mem_cons.mp h' with e' | h'
      · rw [← e'] at e; cases e; rfl
      · exact absurd (List.mem_map.mpr ⟨_, h', by rw [← e]⟩) nd.1
    · rcases List.mem_cons.mp h' with e' | h'
      · exact absurd (List.mem_map.mpr ⟨_, h, by rw [← e']⟩) nd.1
      · exact ih nd.2 h h'

theorem fr_upd {h₀ h h' : Heap} {L a : Addr} {m : Str → Option Value} {news : List (Addr × Obj)} {ob ob' : Obj} (F : Fr h₀ L h m) (N : News h₀ L h news) (hm : (a, ob) ∈ news)
    (hs : Heap.ExtBut a h h') (hg : h'.get? a = some ob') : Fr h₀ L h' m ∧ News h₀ L h' (setL a ob' news) := by
  have D := N _ hm
  refine ⟨⟨F.ns.extBut hs (Ne.symm D.2.1), fun b o e => hs b o (fun z => ?_) (F.keep b o e), F.above⟩, fun p hp => ?_⟩
  · have := D.2.2; rw [← z, e] at this; cases this
  · rcases mem_setL hp with ⟨rfl, _⟩ | ⟨hp, z⟩
    · exact ⟨hg, D.2⟩
    · exact ⟨hs _ _ z (N p hp).1, (N p hp).2⟩

theorem nodup_idx {α : Type} {l : List α} (nd : l.Nodup) : ∀ {i j : Nat} {a : α}, l[i]? = some a → l[j]? = some a → i = j := by
  induction l with
  | nil => intro i j a h; simp at h
  | cons x r ih =>
    rw [List.nodup_cons] at nd
    intro i j a hi hj
    cases i with
    | zero =>
      cases j with
      | zero => rfl
      | succ j =>
        simp at hi hj
        subst hi
        exact absurd (List.mem_of_getElem? hj) nd.1
    | succ i =>
      cases j with
      | zero =>
        simp at hi hj
        subst hj
        exact absurd (List.mem_of_getElem? hi) nd.1
      | succ j => exact congrArg (· + 1) (ih nd.2 (by simpa using hi) (by simpa using hj))

/-- an object of the abstract heap changes -/
theorem Core.upd {fx : Fx} {σ : St} {W : Wd} {m : Str → Option Value} {news : List (Addr × Obj)} (C : Core fx σ W m news) {i : Nat} {a : Addr} {o o' : O} {ob' : Obj} (ho : σ.hp[i]? = some o) (ha : W.al[i]? = some a) (hr : OR W o' a ob') : Core fx ⟨σ.loc, σ.hp.set i o'⟩ W m (setL a ob' news) := by
  obtain ⟨a', ob, h1, h2, h3⟩ := C.obs i o ho
  rw [ha] at h1
  cases h1
  have hin : a ∈ W.al := List.mem_of_getElem? ha
  have other : ∀ p ∈ news, p.1 ≠ a → p ∈ setL a ob' news := fun p hp q => setL_ne hp q
  refine ⟨by rw [setL_keys]; exact C.nd, fun p hp => other p (C.exs p hp) fun q => C.exd p hp (q ▸ hin), C.exd, C.aln, by simp [C.len], fun j o₁ h => ?_, fun t ht => other _ (C.tps t ht) fun q => ?_, fun x v h => ?_, fun x c h => ?_, C.scc, C.mfx, C.ext⟩
  · dsimp only at h
    by_cases q : j = i
    · subst q
      have hj : j < σ.hp.length := by
        rcases Nat.lt_or_ge j σ.hp.length with z | z
        · exact z
        · rw [List.getElem?_eq_none z] at ho; cases ho
      rw [List.getElem?_set_self hj] at h
      cases h
      exact ⟨a, ob', ha, setL_self h2, hr⟩
    · rw [List.getElem?_set_ne (Ne.symm q)] at h
      obtain ⟨b, ob₁, k1, k2, k3⟩ := C.obs j o₁ h
      refine ⟨b, ob₁, k1, other _ k2 fun z => q ?_, k3⟩
      dsimp only at z
      subst z
      exact nodup_idx C.aln k1 ha
  · dsimp only at q
    have := C.tps t ht
    rw [q] at this
    have e := key_inj C.nd this h2
    cases h3 with
    | list n r => injection e with e1; simp at e1
    | exn _ q2 => rw [← e] at q2; cases q2
    | tab _ x _ => have := x.1; rw [← e] at this; injection this with this; exact absurd this (by decide)
    | inst _ => injection e with e1; cases e1
    | att _ => injection e with e1; simp at e1
    | dic x => rw [← e] at x; injection x with x; exact absurd x (by decide)
  · obtain ⟨u, k1, k2⟩ := C.loc x v h
    refine ⟨u, k1, ?_⟩
    cases k2 with
    | loc p q r => exact .loc p q r
    | comp p q r => exact .comp p q r
    | cell p q r t => exact .cell p q (other _ r fun z => (C.cel x _ q).1 (by dsimp only at z; rw [z]; exact hin)) t
  · obtain ⟨k1, o₁, v, k2, k3⟩ := C.cel x c h
    exact ⟨k1, o₁, v, other _ k2 fun z => k1 (by dsimp only at z; rw [z]; exact hin), k3⟩

theorem Rep.upd {fx : Fx} {σ : St} {W : Wd} {s : Shared} (R : Rep fx σ W s) {i : Nat} {a : Addr} {o o' : O} {ob' : Obj} (ho : σ.hp[i]? = some o) (ha : W.al[i]? = some a) (hr : OR W o' a ob') (tk : Nat) {h' : Heap}
    (hs : Heap.ExtBut a s.heap h') (hg : h'.get? a = some ob') : Rep fx ⟨σ.loc, σ.hp.set i o'⟩ W { s with heap := h', toks := tk } := by
  refine R.elim fun e g m news G F N C => ?_
  obtain ⟨a', ob, h1, h2, h3⟩ := C.obs i o ho
  rw [ha] at h1
  cases h1
  obtain ⟨F', N'⟩ := fr_upd F N h2 hs hg
  exact ⟨rest_with e _ _, g, m, setL a ob' news, G, F', N', C.upd ho ha hr⟩

inductive Kd where
  | made | fly | held
/-- an exception within a frame: made there, come from a call, noted there -/
inductive FlyS (B : Heap) (l : List Env) (L e : Addr) (cls : Value) (h : Heap) : Kd → Prop
  | made {oe : Obj} {vs : Array Value} {a0 : Value} : B.StaysIn h → B.get? e = none → h.FunFrames B l → h.get? e = some oe → oe.cls = cls → oe.data = .fields vs → vs[0]? = some a0 → vs[1]? = some .none → FlyS B l L e cls h .made
  | fly {a0 : Value} : Heap.FlyingW B l e cls a0 h → FlyS B l L e cls h .fly
  | held {a0 : Value} : Heap.HeldW B l e cls a0 L h → FlyS B l L e cls h .held

theorem FlyS.stays {B : Heap} {l : List Env} {L e : Addr} {cls : Value} {h : Heap} {k : Kd} (x : FlyS B l L e cls h k) : B.StaysIn h ∧ B.get? e = none := by
  cases x with
  | made a b _ _ _ _ _ _ => exact ⟨a, b⟩
  | fly a => exact ⟨a.1, a.2.1⟩
  | held a => exact ⟨a.1, a.2.1⟩
theorem FlyS.there {B : Heap} {l : List Env} {L e : Addr} {cls : Value} {h : Heap} {k : Kd} (x : FlyS B l L e cls h k) : ∃ oe vs, h.get? e = some oe ∧ oe.cls = cls ∧ oe.data = .fields vs := by
  cases x with
  | made _ _ _ a b c _ _ => exact ⟨_, _, a, b, c⟩
  | fly a =>
    obtain ⟨_, _, _, oe, vs, T, oT, ts, h1, h2, h3, _⟩ := a
    exact ⟨oe, vs, h1, h2.1, h3⟩
  | held a =>
    obtain ⟨_, _, _, oe, vs, T, oT, ts, h1, h2, h3, _⟩ := a
    exact ⟨oe, vs, h1, h2.1, h3⟩

section
variable {M : Model} {A : Around} {E : Value → Shared → Prop} {s : Shared} {B : Heap} {env : Env} {outer : List Env} {L e : Addr} {cls : Value} {k : Kd}
theorem noteFly {Q : Unit → Shared → Prop} (hfr : A.frames = some (env :: outer)) (hf : env.frame = some L) (x : FlyS B (env :: outer) L e cls s.heap k)
    (h : ∀ h', FlyS B (env :: outer) L e cls h' .held → s.heap.UpToSlots h' → Q () { s with heap := h' }) : wpAny M A (noteFrame (.ref e) env) Q E s := by
  cases x with
  | made x1 x2 x3 x4 x5 x6 x7 x8 =>
    unfold noteFrame
    simp only [hf]
    refine wpAny_bind (wpAny_field x4 x6 x8 ?_)
    rw [if_neg (by decide)]
    refine wpAny_entryW hfr x3 hf x4 x1 x2 x6 (Array.getElem?_eq_some_iff.mp x8).1 x7 fun h' ⟨k1, k2, k3, k4⟩ => h h' (.held ⟨k1, x2, k2, x5 ▸ k3⟩) k4
  | fly x => exact wpAny_looks_onW hfr hf x fun h' hh hs => h h' (.held hh) hs
  | held x => exact wpAny_noteFrame_againW hf x.2.2.2 (h s.heap (.held x) (.refl _))
theorem landFly {Q : Unit → Shared → Prop} {l : List Env} (x : FlyS B l L e cls s.heap .held)
    (h : ∀ h', FlyS B l L e cls h' .fly → s.heap.UpToSlots h' → Q () { s with heap := h' }) : wpAny M A (setFlight (.ref e) none) Q E s := by
  cases x with
  | held x => exact wpAny_landsW x fun h' hh hs => h h' (.fly hh) hs
theorem leaveFly {Q : Unit → Shared → Prop} {L₁ : Addr} (hfr : A.frames = some (env :: outer)) (hf : env.frame = some L) (x : FlyS B (env :: outer) L e cls s.heap k)
    (h : ∀ h', FlyS B outer L₁ e cls h' .fly → s.heap.UpToSlots h' → Q () { s with heap := h' }) : wpAny M A (leaving env (.ref e)) Q E s := by
  unfold leaving
  refine wpAny_bind (noteFly hfr hf x fun h₁ x₁ u₁ => ?_)
  refine landFly x₁ fun h₂ x₂ u₂ => ?_
  cases x₂ with
  | fly y =>
    obtain ⟨k1, k2, ⟨_, _, k3⟩, k4⟩ := y
    exact h h₂ (.fly ⟨k1, k2, k3, k4⟩) (u₁.trans u₂)
theorem setFlightHeld {l : List Env} {a0 : Value} {Q : Unit → Shared → Prop} (R : Heap.HeldW B l e cls a0 L s.heap)
    (h : ∀ h', Heap.HeldW B l e cls a0 L h' → s.heap.UpToSlots h' → Q () { s with heap := h' }) : wpAny M A (setFlight (.ref e) (some L)) Q E s := by
  obtain ⟨r1, r2, r3, oe, vs, T, oT, ts, q1, q2, q3, q4, q5, q6, q7, q8, q9⟩ := R
  have big : 3 < ts.size := (Array.getElem?_eq_some_iff.mp q9).1
  have same : ∀ b, b ≠ T → (s.heap.update T (Obj.mapFields (·.setIfInBounds 3 ((some L).elim Value.none fun f => rawInt f)))).get? b = s.heap.get? b := fun b hb => Heap.get?_update_other _ _ (Ne.symm hb)
  have plain : ∀ b o, s.heap.get? b = some o → (∀ vs, o.data ≠ .fields vs) → b ≠ T := fun b o hb hnf q => hnf ts (by rw [q, q7] at hb; cases hb; exact q8)
  unfold setFlight
  refine wpAny_bind (wpAny_field q1 q3 q4 ?_)
  rw [if_pos (show (Value.ref T != Value.none) = true from by simp)]
  refine wpAny_setField q7 q8 big (h _ ⟨fun b o hb => ?_, r2, r3.of_keeps fun b o hb hnf => ⟨o, (same b (plain b o hb hnf)).trans hb, rfl⟩, ?_⟩ fun b o hb hnf => ⟨o.slots, (same b (plain b o hb hnf)).trans hb⟩)
  · exact (same b fun q => by rw [q, q5] at hb; cases hb).trans (r1 b o hb)
  · exact ⟨oe, vs, T, _, _, (same e (Ne.symm q6)).trans q1, q2, q3, q4, q5, q6, Heap.get?_update_self _ q7 (Obj.isFreed_of_fields (Obj.data_mapFields q8 _)), Obj.data_mapFields q8 _, by simp [big]⟩
theorem notedFly {Q : Value → Shared → Prop} (hfr : A.frames = some (env :: outer)) (hf : env.frame = some L) (x : FlyS B (env :: outer) L e cls s.heap k)
    (h : ∀ h', FlyS B (env :: outer) L e cls h' .held → s.heap.UpToSlots h' → Q (.ref e) { s with heap := h' }) : notedBy M A env (cameBackBy M A env Q) (.ref e) s := by
  unfold notedBy
  refine noteFly hfr hf x fun h₁ x₁ u₁ => ?_
  cases x₁ with
  | held y =>
    unfold cameBackBy
    obtain ⟨_, _, _, oe, vs, T, oT, ts, y1, y2, y3, y4, _⟩ := id y
    refine wpAny_bind (wpAny_field y1 y3 y4 ?_)
    rw [if_neg (show ¬ ((Value.ref T == Value.none) = true) from by simp)]
    rw [hf]
    exact setFlightHeld y fun h₂ x₂ u₂ => h h₂ (.held x₂) (u₁.trans u₂)
end

/-- what holds of a frame in which an exception flies -/
structure XCore (fx : Fx) (σ : St) (W : Wd) (g : Heap) (m : Str → Option Value) (news : List (Addr × Obj)) (B h : Heap) : Prop where
  turn : KtsTurn (fx.outer.filterMap (·.frame)) fx.h₀ g
  dic : KtsDicts (fx.outer.filterMap (·.frame)) g
  size : g.objs.size ≤ fx.L
  ns : h.Ns fx.L m
  gB : ∀ b o, g.get? b = some o → b ∉ (fx.fenv :: fx.outer).filterMap (·.frame) → B.get? b = some o
  fr : ∀ b o, g.get? b = some o → ∃ sl, h.get? b = some { o with slots := sl }
  nw : ∀ p ∈ news, B.get? p.1 = some p.2 ∧ p.1 ≠ fx.L ∧ g.get? p.1 = none
  core : Core fx σ W m news
  base : fx.base.StaysIn B

theorem mem_frames {env : Env} {outer : List Env} {L b : Addr} (hf : env.frame = some L) (hm : b ∈ (env :: outer).filterMap (·.frame)) : b = L ∨ b ∈ outer.filterMap (·.frame) := by
  obtain ⟨env', he, hf'⟩ := List.mem_filterMap.mp hm
  rcases List.mem_cons.mp he with rfl | he
  · rw [hf] at hf'
    exact .inl (Option.some.inj hf').symm
  · exact .inr (List.mem_filterMap.mpr ⟨env', he, hf'⟩)
theorem ground_self {g : Heap} {L : Addr} (h : g.objs.size ≤ L) : g.get? L = none := by
  cases q : g.get? L with
  | none => rfl
  | some o => exact absurd (Nat.lt_of_lt_of_le (Heap.lt_size q) h) (Nat.lt_irrefl _)
theorem XCore.up {fx : Fx} {σ : St} {W : Wd} {g B h h' : Heap} {m : Str → Option Value} {news : List (Addr × Obj)} (x : XCore fx σ W g m news B h) (hf : fx.fenv.frame = some fx.L) (st : B.StaysIn h') (u : h.UpToSlots h') : XCore fx σ W g m news B h' :=
  ⟨x.turn, x.dic, x.size, u.ns x.ns, x.gB, fun b o e => by
    by_cases q : b ∈ (fx.fenv :: fx.outer).filterMap (·.frame)
    · rcases mem_frames hf q with z | z
      · rw [z, ground_self x.size] at e
        cases e
      · obtain ⟨o', es, n, e1, e2⟩ := x.dic b z
        rw [e] at e1
        cases e1
        obtain ⟨sl, e3⟩ := x.fr b o e
        obtain ⟨sl', e4⟩ := u b { o with slots := sl } e3 fun vs y => by rw [show ({ o with slots := sl } : Obj).data = o.data from rfl, e2] at y; cases y
        exact ⟨sl', e4⟩
    · exact ⟨o.slots, st b o (x.gB b o e q)⟩, x.nw, x.core, x.base⟩

structure XRep (fx : Fx) (σ : St) (W : Wd) (e : Addr) (cls : Value) (k : Kd) (s : Shared) : Prop where
  rest : s = { fx.s₀ with heap := s.heap, toks := s.toks }
  more : ∃ g m news B, XCore fx σ W g m news B s.heap ∧ FlyS B (fx.fenv :: fx.outer) fx.L e cls s.heap k

section
variable {M : Model} {A : Around} {E : Value → Shared → Prop} {s : Shared} {fx : Fx} {σ : St} {W : Wd} {e : Addr} {cls : Value} {k : Kd}
theorem rest_heap {s s₀ : Shared} (e : s = { s₀ with heap := s.heap, toks := s.toks }) (h : Heap) : ({ s with heap := h } : Shared) = { s₀ with heap := h, toks := s.toks } := by
  rw [e]
theorem XRep.note {Q : Unit → Shared → Prop} (x : XRep fx σ W e cls k s) (hfr : A.frames = some (fx.fenv :: fx.outer)) (hf : fx.fenv.frame = some fx.L)
    (h : ∀ h', XRep fx σ W e cls .held { s with heap := h' } → Q () { s with heap := h' }) : wpAny M A (noteFrame (.ref e) fx.fenv) Q E s := by
  obtain ⟨r, g, m, news, B, c, f⟩ := x
  exact noteFly hfr hf f fun h' f' u => h h' ⟨rest_heap r _, g, m, news, B, c.up hf f'.stays.1 u, f'⟩
theorem XRep.land {Q : Unit → Shared → Prop} (x : XRep fx σ W e cls .held s) (hf : fx.fenv.frame = some fx.L)
    (h : ∀ h', XRep fx σ W e cls .fly { s with heap := h' } → Q () { s with heap := h' }) : wpAny M A (setFlight (.ref e) none) Q E s := by
  obtain ⟨r, g, m, news, B, c, f⟩ := x
  exact landFly f fun h' f' u => h h' ⟨rest_heap r _, g, m, news, B, c.up hf f'.stays.1 u, f'⟩
theorem XRep.again {Q : Unit → Shared → Prop} (x : XRep fx σ W e cls .fly s) (hf : fx.fenv.frame = some fx.L)
    (h : ∀ h', XRep fx σ W e cls .fly { s with heap := h' } → Q () { s with heap := h' }) : wpAny M A (setFlight (.ref e) none) Q E s := by
  obtain ⟨r, g, m, news, B, c, f⟩ := x
  cases f with
  | fly f => exact lands_againW f fun h' f' u => h h' ⟨rest_heap r _, g, m, news, B, c.up hf f'.1 u, .fly f'⟩
theorem XRep.noted {Q : Value → Shared → Prop} (x : XRep fx σ W e cls k s) (hfr : A.frames = some (fx.fenv :: fx.outer)) (hf : fx.fenv.frame = some fx.L)
    (h : ∀ h', XRep fx σ W e cls .held { s with heap := h' } → Q (.ref e) { s with heap := h' }) : notedBy M A fx.fenv (cameBackBy M A fx.fenv Q) (.ref e) s := by
  obtain ⟨r, g, m, news, B, c, f⟩ := x
  exact notedFly hfr hf f fun h' f' u => h h' ⟨rest_heap r _, g, m, news, B, c.up hf f'.stays.1 u, f'⟩
end

end Mine

set_option autoImplicit false
namespace Mine
open PySem PySem.W PySem.Calls PySem.Spec PyProof.Rows

abbrev XP := Value → St → Prop

def PV (fx : Fx) (W : Wd) (Q : V → St → Prop) : Value → Shared → Prop := fun u s' => ∃ W' σ' v, W.le W' ∧ Rep fx σ' W' s' ∧ VR W' v u ∧ Q v σ'
def PX (fx : Fx) (W : Wd) (X : XP) : Value → Shared → Prop := fun u s => ∃ e cls k W' σ', u = .ref e ∧ W.le W' ∧ XRep fx σ' W' e cls k s ∧ X cls σ'
def PVs (fx : Fx) (W : Wd) (Q : List V → St → Prop) : List Value → Shared → Prop := fun us s' => ∃ W' σ' vs, W.le W' ∧ Rep fx σ' W' s' ∧ VRs W' vs us ∧ Q vs σ'
def PB (fx : Fx) (W : Wd) (Q : Bool → St → Prop) : Bool → Shared → Prop := fun b s' => ∃ W' σ', W.le W' ∧ Rep fx σ' W' s' ∧ Q b σ'
def PU (fx : Fx) (W : Wd) (Q : St → Prop) : Unit → Shared → Prop := fun _ s' => ∃ W' σ', W.le W' ∧ Rep fx σ' W' s' ∧ Q σ'

theorem PV.elim {fx : Fx} {W : Wd} {Q : V → St → Prop} {u : Value} {s : Shared} {P : Prop} (x : PV fx W Q u s) (k : ∀ W' σ' v, W.le W' → Rep fx σ' W' s → VR W' v u → Q v σ' → P) : P := by
  obtain ⟨W', σ', v, a, b, c, d⟩ := x
  exact k W' σ' v a b c d
theorem PVs.elim {fx : Fx} {W : Wd} {Q : List V → St → Prop} {u : List Value} {s : Shared} {P : Prop} (x : PVs fx W Q u s) (k : ∀ W' σ' v, W.le W' → Rep fx σ' W' s → VRs W' v u → Q v σ' → P) : P := by
  obtain ⟨W', σ', v, a, b, c, d⟩ := x
  exact k W' σ' v a b c d
theorem PB.elim {fx : Fx} {W : Wd} {Q : Bool → St → Prop} {u : Bool} {s : Shared} {P : Prop} (x : PB fx W Q u s) (k : ∀ W' σ', W.le W' → Rep fx σ' W' s → Q u σ' → P) : P := by
  obtain ⟨W', σ', a, b, c⟩ := x
  exact k W' σ' a b c
theorem PU.elim {fx : Fx} {W : Wd} {Q : St → Prop} {u : Unit} {s : Shared} {P : Prop} (x : PU fx W Q u s) (k : ∀ W' σ', W.le W' → Rep fx σ' W' s → Q σ' → P) : P := by
  obtain ⟨W', σ', a, b, c⟩ := x
  exact k W' σ' a b c
theorem PV.mono {fx : Fx} {W W' : Wd} {Q Q' : V → St → Prop} (h : W.le W') (hq : ∀ v σ, Q v σ → Q' v σ) {u : Value} {s : Shared} : PV fx W' Q u s → PV fx W Q' u s := by
  rintro ⟨W₁, σ, v, a, b, c, d⟩
  exact ⟨W₁, σ, v, h.trans a, b, c, hq _ _ d⟩
theorem PX.mono {fx : Fx} {W W' : Wd} {X X' : XP} (h : W.le W') (hx : ∀ c hp, X c hp → X' c hp) {u : Value} {s : Shared} : PX fx W' X u s → PX fx W X' u s := by
  rintro ⟨e, cls, k, W₁, σ, a, b, c, d⟩
  exact ⟨e, cls, k, W₁, σ, a, h.trans b, c, hx _ _ d⟩
/-- no exception -/
def X0 : XP := fun _ _ => False
theorem PX.never {fx : Fx} {W : Wd} {u : Value} {s : Shared} : PX fx W X0 u s → False := by
  rintro ⟨_, _, _, _, _, _, _, _, d⟩
  exact d
theorem PVs.mono {fx : Fx} {W W' : Wd} {Q Q' : List V → St → Prop} (h : W.le W') (hq : ∀ v σ, Q v σ → Q' v σ) {u : List Value} {s : Shared} : PVs fx W' Q u s → PVs fx W Q' u s := by
  rintro ⟨W₁, σ, v, a, b, c, d⟩
  exact ⟨W₁, σ, v, h.trans a, b, c, hq _ _ d⟩
theorem PB.mono {fx : Fx} {W W' : Wd} {Q Q' : Bool → St → Prop} (h : W.le W') (hq : ∀ v σ, Q v σ → Q' v σ) {u : Bool} {s : Shared} : PB fx W' Q u s → PB fx W Q' u s := by
  rintro ⟨W₁, σ, a, b, d⟩
  exact ⟨W₁, σ, h.trans a, b, hq _ _ d⟩
/-- an expression's run -/
def EvE (fx : Fx) (X : XP) (e : Expr) (σ : St) (Q : V → St → Prop) : Prop := ∀ W s, Rep fx σ W s → wpAny fx.M fx.A (eval e fx.env) (PV fx W Q) (PX fx W X) s
/-- the elements of a display, the arguments of a call -/
def EvEs (fx : Fx) (X : XP) (es : List Expr) (σ : St) (Q : List V → St → Prop) : Prop :=
  ∀ W s pos, Rep fx σ W s → wpAny fx.M fx.A (spliced (backTo pos (starEach es fx.env))) (PVs fx W Q) (PX fx W X) s
def EvB (fx : Fx) (X : XP) (e : Expr) (σ : St) (Q : Bool → St → Prop) : Prop := ∀ W s, Rep fx σ W s → wpAny fx.M fx.A (isTrue e fx.env (eval e fx.env)) (PB fx W Q) (PX fx W X) s

section
variable {fx : Fx} {X : XP} {σ : St}

theorem EvE.mono {e : Expr} {Q Q' : V → St → Prop} (h : EvE fx X e σ Q) (hq : ∀ v σ', Q v σ' → Q' v σ') : EvE fx X e σ Q' :=
  fun W s R => wpAny_mono (h W s R) (fun _ _ x => x.mono (.refl _) hq) fun _ _ x => x
theorem EvEs.mono {e : List Expr} {Q Q' : List V → St → Prop} (h : EvEs fx X e σ Q) (hq : ∀ v σ', Q v σ' → Q' v σ') : EvEs fx X e σ Q' :=
  fun W s p R => wpAny_mono (h W s p R) (fun _ _ x => x.mono (.refl _) hq) fun _ _ x => x
theorem EvB.mono {e : Expr} {Q Q' : Bool → St → Prop} (h : EvB fx X e σ Q) (hq : ∀ v σ', Q v σ' → Q' v σ') : EvB fx X e σ Q' :=
  fun W s R => wpAny_mono (h W s R) (fun _ _ x => x.mono (.refl _) hq) fun _ _ x => x

theorem PV.here {Q : V → St → Prop} {W : Wd} {s : Shared} {v : V} {u : Value} (R : Rep fx σ W s) (r : VR W v u) (q : Q v σ) : PV fx W Q u s := ⟨W, σ, v, .refl _, R, r, q⟩
theorem PB.here {Q : Bool → St → Prop} {W : Wd} {s : Shared} {b : Bool} (R : Rep fx σ W s) (q : Q b σ) : PB fx W Q b s := ⟨W, σ, .refl _, R, q⟩

theorem evConstInt {i : Int} {k : Nat} {pos : Pos} {Q : V → St → Prop} (h : Q (.int i) σ) : EvE fx X (.Constant (.int i) k pos) σ Q :=
  fun _ _ R => wpAny_Constant_int (.here (R.toks _) (.int _ _) h)
theorem evConstStr {x : Str} {k : Nat} {pos : Pos} {Q : V → St → Prop} (h : Q (.str x) σ) : EvE fx X (.Constant (.str x) k pos) σ Q :=
  fun _ _ R => Constant_str (.here (R.toks _) (.str _ _) h)
theorem evConstBool {b : Bool} {k : Nat} {pos : Pos} {Q : V → St → Prop} (h : Q (.bool b) σ) : EvE fx X (.Constant (.bool b) k pos) σ Q :=
  fun _ _ R => Constant_bool (.here R (.bool _) h)
theorem evConstNone {k : Nat} {pos : Pos} {Q : V → St → Prop} (h : Q .none σ) : EvE fx X (.Constant .none k pos) σ Q :=
  fun _ _ R => Constant_none (.here R .none h)

/-- the frame's own facts -/
structure FxOk (fx : Fx) : Prop where
  kind : fx.env.scope.kind = .function
  handled : fx.qt = true → fx.A.handled = none

theorem evName (ok : FxOk fx) {x : Str} {pos : Pos} {v : V} {Q : V → St → Prop} (hv : σ.loc x = some v) (h : Q v σ) (hd : (x == ("__debug__" : Str)) = false) (hc : (x == ("__classdict__" : Str)) = false) :
    EvE fx X (.Name x pos) σ Q := by
  intro W s R
  obtain ⟨_, g, m, news, G, F, N, C⟩ := id R
  obtain ⟨u, r, n⟩ := C.loc x v hv
  refine wpAny_Name ?_ hd
  cases n with
  | loc a b c => exact wpAny_loadName_local ok.kind a (by rw [b]; exact F.ns) c (.here R r h)
  | @comp o a b c =>
    obtain ⟨es, ep, c1, c2, c3⟩ := c
    exact wpAny_loadName_local (m := nsFind es) ok.kind a ⟨o, es, ep, (N _ (C.exs _ b)).1, c1, c2, fun _ => rfl⟩ c3 (.here R r h)
  | @cell c o a b d e =>
    rcases a with a | a
    · exact wpAny_loadName_cell ok.kind a b ⟨o, N.get d, e⟩ (.here R r h)
    · exact wpAny_loadName_free ok.kind a b ⟨o, N.get d, e⟩ (.here R r h) hc

def BinT (fx : Fx) (X : XP) (op : Operator) (a b : V) (σ : St) (Q : V → St → Prop) : Prop :=
  ∀ W s u₁ u₂, Rep fx σ W s → VR W a u₁ → VR W b u₂ → wpAny fx.M fx.A (binaryOp op u₁ u₂) (PV fx W Q) (PX fx W X) s
theorem evBin {l r : Expr} {op : Operator} {pos : Pos} {Q : V → St → Prop} (h : EvE fx X l σ (fun a σ₁ => EvE fx X r σ₁ (fun b σ₂ => BinT fx X op a b σ₂ Q))) : EvE fx X (.BinOp l op r pos) σ Q := by
  intro W s R
  refine wpAny_BinOp (wpAny_mono (h W s R) ?_ fun _ _ x => x)
  refine fun u₁ s₁ zz => zz.elim fun W₁ σ₁ a le₁ R₁ r₁ h₁ => ?_
  refine wpAny_mono (h₁ W₁ s₁ R₁) ?_ fun _ _ x => x.mono le₁ fun _ _ y => y
  refine fun u₂ s₂ zz => zz.elim fun W₂ σ₂ b le₂ R₂ r₂ h₂ => ?_
  exact wpAny_mono (h₂ W₂ s₂ u₁ u₂ R₂ (r₁.mono le₂) r₂) (fun _ _ x => x.mono (le₁.trans le₂) fun _ _ y => y) fun _ _ x => x.mono (le₁.trans le₂) fun _ _ y => y

def UnT (fx : Fx) (X : XP) (op : UnaryOp) (a : V) (σ : St) (Q : V → St → Prop) : Prop :=
  ∀ W s u, Rep fx σ W s → VR W a u → wpAny fx.M fx.A (unaryOp op u) (PV fx W Q) (PX fx W X) s
theorem evUn {l : Expr} {op : UnaryOp} {pos : Pos} {Q : V → St → Prop} (h : EvE fx X l σ (fun a σ₁ => UnT fx X op a σ₁ Q)) : EvE fx X (.UnaryOp op l pos) σ Q := by
  intro W s R
  refine UnaryOp_ (wpAny_mono (h W s R) ?_ fun _ _ x => x)
  refine fun u₁ s₁ zz => zz.elim fun W₁ σ₁ a le₁ R₁ r₁ h₁ => ?_
  exact wpAny_mono (h₁ W₁ s₁ u₁ R₁ r₁) (fun _ _ x => x.mono le₁ fun _ _ y => y) fun _ _ x => x.mono le₁ fun _ _ y => y

def TruT (fx : Fx) (X : XP) (a : V) (σ : St) (Q : Bool → St → Prop) : Prop :=
  ∀ W s u, Rep fx σ W s → VR W a u → wpAny fx.M fx.A (truthy u) (PB fx W Q) (PX fx W X) s

theorem evAnd {e₁ e₂ : Expr} {rest : List Expr} {pos : Pos} {Q : V → St → Prop}
    (h : EvE fx X e₁ σ (fun v σ₁ => TruT fx X v σ₁ (fun c σ₂ => if c then EvE fx X (.BoolOp .And (e₂ :: rest) pos) σ₂ Q else Q v σ₂))) : EvE fx X (.BoolOp .And (e₁ :: e₂ :: rest) pos) σ Q := by
  intro W s R
  refine BoolOp_and (wpAny_mono (h W s R) ?_ fun _ _ x => x)
  refine fun u₁ s₁ zz => zz.elim fun W₁ σ₁ a le₁ R₁ r₁ h₁ => ?_
  refine wpAny_mono (h₁ W₁ s₁ u₁ R₁ r₁) ?_ fun _ _ x => x.mono le₁ fun _ _ y => y
  refine fun c s₂ zz => zz.elim fun W₂ σ₂ le₂ R₂ h₂ => ?_
  cases c with
  | true => exact wpAny_mono (h₂ W₂ s₂ R₂) (fun _ _ x => x.mono (le₁.trans le₂) fun _ _ y => y) fun _ _ x => x.mono (le₁.trans le₂) fun _ _ y => y
  | false => exact ⟨W₂, σ₂, a, le₁.trans le₂, R₂, r₁.mono le₂, h₂⟩
theorem evBoolOne {op : BoolOp} {e : Expr} {pos : Pos} {Q : V → St → Prop} (h : EvE fx X e σ Q) : EvE fx X (.BoolOp op [e] pos) σ Q := fun W s R => BoolOp_one (h W s R)

def CmpT (fx : Fx) (X : XP) (op : CmpOp) (a b : V) (σ : St) (Q : V → St → Prop) : Prop :=
  ∀ W s u₁ u₂, Rep fx σ W s → VR W a u₁ → VR W b u₂ → wpAny fx.M fx.A (compareOp op u₁ u₂) (PV fx W Q) (PX fx W X) s
theorem evCmp1 {l r : Expr} {op : CmpOp} {pos : Pos} {Q : V → St → Prop} (h : EvE fx X l σ (fun a σ₁ => EvE fx X r σ₁ (fun b σ₂ => CmpT fx X op a b σ₂ Q))) (hm : behindInMarks op r = false) : EvE fx X (.Compare l [op] [r] pos) σ Q := by
  intro W s R
  refine wpAny_Compare1 (wpAny_mono (h W s R) ?_ fun _ _ x => x) hm
  refine fun u₁ s₁ zz => zz.elim fun W₁ σ₁ a le₁ R₁ r₁ h₁ => ?_
  refine wpAny_mono (h₁ W₁ s₁ R₁) ?_ fun _ _ x => x.mono le₁ fun _ _ y => y
  refine fun u₂ s₂ zz => zz.elim fun W₂ σ₂ b le₂ R₂ r₂ h₂ => ?_
  exact wpAny_mono (h₂ W₂ s₂ u₁ u₂ R₂ (r₁.mono le₂) r₂) (fun _ _ x => x.mono (le₁.trans le₂) fun _ _ y => y) fun _ _ x => x.mono (le₁.trans le₂) fun _ _ y => y
theorem evB_cmp1 {l r : Expr} {op : CmpOp} {pos : Pos} {Q : Bool → St → Prop} (h : EvE fx X l σ (fun a σ₁ => EvE fx X r σ₁ (fun b σ₂ => CmpT fx X op a b σ₂ (fun c σ₃ => TruT fx X c σ₃ Q)))) (hm : behindInMarks op r = false) : EvB fx X (.Compare l [op] [r] pos) σ Q := by
  intro W s R
  refine wpAny_isTrue_Compare1 (wpAny_mono (h W s R) ?_ fun _ _ x => x) hm
  refine fun u₁ s₁ zz => zz.elim fun W₁ σ₁ a le₁ R₁ r₁ h₁ => ?_
  refine wpAny_mono (h₁ W₁ s₁ R₁) ?_ fun _ _ x => x.mono le₁ fun _ _ y => y
  refine fun u₂ s₂ zz => zz.elim fun W₂ σ₂ b le₂ R₂ r₂ h₂ => ?_
  refine wpAny_mono (h₂ W₂ s₂ u₁ u₂ R₂ (r₁.mono le₂) r₂) ?_ fun _ _ x => x.mono (le₁.trans le₂) fun _ _ y => y
  refine fun u₃ s₃ zz => zz.elim fun W₃ σ₃ c le₃ R₃ r₃ h₃ => ?_
  exact wpAny_mono (h₃ W₃ s₃ u₃ R₃ r₃) (fun _ _ x => x.mono ((le₁.trans le₂).trans le₃) fun _ _ y => y) fun _ _ x => x.mono ((le₁.trans le₂).trans le₃) fun _ _ y => y

theorem evB_not {e : Expr} {pos : Pos} {Q : Bool → St → Prop} (h : EvB fx X e σ (fun c σ₁ => Q (!c) σ₁)) : EvB fx X (.UnaryOp .Not e pos) σ Q :=
  fun W s R => isTrue_not (wpAny_mono (h W s R) (fun _ _ ⟨W₁, σ₁, a, b, c⟩ => ⟨W₁, σ₁, a, b, c⟩) fun _ _ x => x)
theorem evB_and_nil {pos : Pos} {Q : Bool → St → Prop} (h : Q true σ) : EvB fx X (.BoolOp .And [] pos) σ Q := fun _ _ R => isTrue_and_nil (.here R h)
theorem evB_or_nil {pos : Pos} {Q : Bool → St → Prop} (h : Q false σ) : EvB fx X (.BoolOp .Or [] pos) σ Q := fun _ _ R => isTrue_or_nil (.here R h)
theorem evB_and {e : Expr} {rest : List Expr} {pos : Pos} {Q : Bool → St → Prop} (h : EvB fx X e σ (fun c σ₁ => if c then EvB fx X (.BoolOp .And rest pos) σ₁ Q else Q false σ₁)) : EvB fx X (.BoolOp .And (e :: rest) pos) σ Q := by
  intro W s R
  refine isTrue_and (wpAny_mono (h W s R) ?_ fun _ _ x => x)
  refine fun c s₁ zz => zz.elim fun W₁ σ₁ le₁ R₁ h₁ => ?_
  cases c with
  | true => exact wpAny_mono (h₁ W₁ s₁ R₁) (fun _ _ x => x.mono le₁ fun _ _ y => y) fun _ _ x => x.mono le₁ fun _ _ y => y
  | false => exact ⟨W₁, σ₁, le₁, R₁, h₁⟩
theorem evB_or {e : Expr} {rest : List Expr} {pos : Pos} {Q : Bool → St → Prop} (h : EvB fx X e σ (fun c σ₁ => if c then Q true σ₁ else EvB fx X (.BoolOp .Or rest pos) σ₁ Q)) : EvB fx X (.BoolOp .Or (e :: rest) pos) σ Q := by
  intro W s R
  refine isTrue_or (wpAny_mono (h W s R) ?_ fun _ _ x => x)
  refine fun c s₁ zz => zz.elim fun W₁ σ₁ le₁ R₁ h₁ => ?_
  cases c with
  | false => exact wpAny_mono (h₁ W₁ s₁ R₁) (fun _ _ x => x.mono le₁ fun _ _ y => y) fun _ _ x => x.mono le₁ fun _ _ y => y
  | true => exact ⟨W₁, σ₁, le₁, R₁, h₁⟩
theorem evB_plain {e : Expr} {Q : Bool → St → Prop} (h : EvE fx X e σ (fun v σ₁ => TruT fx X v σ₁ Q)) (he : ∀ env whole, isTrue e env whole = (do let v ← whole; standAt e.pos; holding [v] (truthy v))) : EvB fx X e σ Q := by
  intro W s R
  refine isTrue_plain (wpAny_mono (h W s R) ?_ fun _ _ x => x) (he _ _)
  refine fun u₁ s₁ zz => zz.elim fun W₁ σ₁ a le₁ R₁ r₁ h₁ => ?_
  exact wpAny_mono (h₁ W₁ s₁ u₁ R₁ r₁) (fun _ _ x => x.mono le₁ fun _ _ y => y) fun _ _ x => x.mono le₁ fun _ _ y => y

/-- arguments and elements -/
theorem evEs_nil {Q : List V → St → Prop} (h : Q [] σ) : EvEs fx X [] σ Q := fun W _ _ R => spliced_none ⟨W, σ, [], .refl _, R, .nil, h⟩
theorem evEs_cons {e : Expr} {rest : List Expr} {Q : List V → St → Prop} (h : EvE fx X e σ (fun v σ₁ => EvEs fx X rest σ₁ (fun vs σ₂ => Q (v :: vs) σ₂))) (hs : ∀ env, starEach (e :: rest) env = (false, eval e env) :: starEach rest env) : EvEs fx X (e :: rest) σ Q := by
  intro W s pos R
  refine spliced_more (wpAny_mono (h W s R) ?_ fun _ _ x => x) (hs _)
  refine fun u₁ s₁ zz => zz.elim fun W₁ σ₁ a le₁ R₁ r₁ h₁ => ?_
  refine wpAny_mono (h₁ W₁ s₁ pos R₁) ?_ fun _ _ x => x.mono le₁ fun _ _ y => y
  refine fun us s₂ zz => zz.elim fun W₂ σ₂ vs le₂ R₂ r₂ h₂ => ?_
  exact ⟨W₂, σ₂, a :: vs, le₁.trans le₂, R₂, .cons (r₁.mono le₂) r₂, h₂⟩

theorem evList {es : List Expr} {pos : Pos} {Q : V → St → Prop} (h : EvEs fx X es σ (fun vs σ₁ => vs.length ≤ sizeLine ∧ Q (.ref σ₁.hp.length) ⟨σ₁.loc, σ₁.hp ++ [.list vs]⟩)) : EvE fx X (.List es pos) σ Q := by
  intro W s R
  refine List_ (wpAny_mono (h W s pos R) ?_ fun _ _ x => x)
  rintro us s₁ ⟨W₁, σ₁, vs, le₁, R₁, r₁, h₁, h₂⟩
  obtain ⟨W₂, le₂, hm, R₂⟩ := R₁.alloc (o := .list vs) (ob := listObj us 0) s₁.toks rfl fun W' le => .list 0 (r₁.mono le)
  refine wpAny_newObj_type ⟨W₂, _, .ref σ₁.hp.length, le₁.trans le₂, R₂, .ref ?_, h₂⟩ (by show us.toArray.size ≤ sizeLine; rw [List.size_toArray, ← r₁.length]; exact h₁)
  refine R₁.elim fun _ g m news G F N C => ?_
  rw [hm, ← C.len]
  simp
end
end Mine

set_option autoImplicit false
namespace Mine
open PySem PySem.W PySem.Calls PySem.Spec PyProof.Rows

def Fx.pushL (fx : Fx) (ps : List (Addr × Obj)) : Fx := { fx with ex := ps ++ fx.ex }

structure ExOk (fx : Fx) (ps : List (Addr × Obj)) : Prop where
  nd : (ps.map (·.1)).Nodup
  dis : ∀ p ∈ fx.ex, p.1 ∉ ps.map (·.1)
  cel : ∀ x c, fx.env.cells.lookup x = some c → c ∉ ps.map (·.1)
  loc : fx.env.locals ∉ ps.map (·.1)

theorem mem_keys {ps : List (Addr × Obj)} {a : Addr} (h : a ∈ ps.map (·.1)) : ∃ o, (a, o) ∈ ps := by
  obtain ⟨p, hp, rfl⟩ := List.mem_map.mp h
  exact ⟨p.2, hp⟩

theorem nodup_filter_keys {news : List (Addr × Obj)} (nd : (news.map (·.1)).Nodup) (f : Addr × Obj → Bool) : ((news.filter f).map (·.1)).Nodup :=
  (List.filter_sublist.map _).nodup nd

/-- the frame's own things change, the rest stays -/
theorem Rep.exSwap {fx : Fx} {σ : St} {W : Wd} {s : Shared} {ps : List (Addr × Obj)} (R : Rep (fx.pushL ps) σ W s) (ok : ExOk fx ps) (ps' : List (Addr × Obj)) (hk : ps'.map (·.1) = ps.map (·.1)) (tk : Nat) {h' : Heap}
    (hs : ∀ b o, b ∉ ps.map (·.1) → s.heap.get? b = some o → h'.get? b = some o) (hg : ∀ p ∈ ps', h'.get? p.1 = some p.2) : Rep (fx.pushL ps') σ W { s with heap := h', toks := tk } := by
  refine R.elim fun e g m news G F N C => ?_
  have hpn : ∀ p ∈ ps, p ∈ news := fun p hp => C.exs p (List.mem_append_left _ hp)
  have hin : ∀ a ∈ ps.map (·.1), a ≠ fx.L ∧ g.get? a = none := fun a ha => by
    obtain ⟨o, ho⟩ := mem_keys ha
    exact (N _ (hpn _ ho)).2
  have hL : fx.L ∉ ps.map (·.1) := fun q => (hin _ q).1 rfl
  have hal : ∀ a ∈ W.al, a ∉ ps.map (·.1) := fun a ha q => by
    obtain ⟨o, ho⟩ := mem_keys q
    exact C.exd _ (List.mem_append_left _ ho) ha
  let f : Addr × Obj → Bool := fun p => decide (p.1 ∉ ps.map (·.1))
  have keepM : ∀ p ∈ news, p.1 ∉ ps.map (·.1) → p ∈ ps' ++ news.filter f := fun p hp q => List.mem_append_right _ (List.mem_filter.mpr ⟨hp, by simpa [f] using q⟩)
  refine ⟨rest_with e _ _, g, m, ps' ++ news.filter f, G, ⟨F.ns.at' fun o q => hs _ o hL q, fun b o q => hs b o (fun z => ?_) (F.keep b o q), F.above⟩, fun p hp => ?_, ?_⟩
  · have := (hin b z).2
    rw [show g.get? b = some o from q] at this; cases this
  · rcases List.mem_append.mp hp with hp | hp
    · exact ⟨hg p hp, hin p.1 (hk ▸ List.mem_map_of_mem hp)⟩
    · obtain ⟨h1, h2⟩ := List.mem_filter.mp hp
      exact ⟨hs _ _ (by simpa [f] using h2) (N p h1).1, (N p h1).2⟩
  refine ⟨?_, fun p hp => ?_, fun p hp => ?_, C.aln, C.len, fun i o h => ?_, fun t ht' => ?_, fun x v h => ?_, fun x c h => ?_, C.scc, C.mfx, fun p hp t ht' => ?_⟩
  · rw [List.map_append]
    refine List.nodup_append.mpr ⟨hk ▸ ok.nd, nodup_filter_keys C.nd f, fun a ha b hb q => ?_⟩
    rw [hk] at ha
    obtain ⟨p, hp, rfl⟩ := List.mem_map.mp hb
    have := (List.mem_filter.mp hp).2
    simp only [f, decide_eq_true_eq] at this
    exact this (q ▸ ha)
  · rcases List.mem_append.mp hp with hp | hp
    · exact List.mem_append_left _ hp
    · exact keepM p (C.exs p (List.mem_append_right _ hp)) (ok.dis p hp)
  · rcases List.mem_append.mp hp with hp | hp
    · exact fun q => hal _ q (hk ▸ List.mem_map_of_mem hp)
    · exact C.exd p (List.mem_append_right _ hp)
  · obtain ⟨a, ob, h1, h2, h3⟩ := C.obs i o h
    exact ⟨a, ob, h1, keepM _ h2 (hal a (List.mem_of_getElem? h1)), h3⟩
  · refine keepM _ (C.tps t ht') fun q => ?_
    obtain ⟨o, ho⟩ := mem_keys q
    exact C.ext _ (List.mem_append_left _ ho) t ht' rfl
  · obtain ⟨u, h1, h2⟩ := C.loc x v h
    refine ⟨u, h1, ?_⟩
    cases h2 with
    | loc a b c => exact .loc a b c
    | @comp o a b c =>
      refine .comp (o := o) a (List.mem_append_right _ ?_) c
      rcases List.mem_append.mp b with b | b
      · exact absurd (List.mem_map_of_mem (f := (·.1)) b) ok.loc
      · exact b
    | cell a b c d => exact .cell a b (keepM _ c (ok.cel x _ b)) d
  · obtain ⟨h1, o, v, h2, h3⟩ := C.cel x c h
    exact ⟨h1, o, v, keepM _ h2 (ok.cel x c h), h3⟩
  · rcases List.mem_append.mp hp with hp | hp
    · obtain ⟨o, ho⟩ := mem_keys (ps := ps) (a := p.1) (by rw [← hk]; exact List.mem_map_of_mem (f := (·.1)) hp)
      exact C.ext _ (List.mem_append_left _ ho) t ht'
    · exact C.ext p (List.mem_append_right _ hp) t ht'

theorem Rep.exDrop {fx : Fx} {σ : St} {W : Wd} {s : Shared} {ps : List (Addr × Obj)} (R : Rep (fx.pushL ps) σ W s) (ok : ExOk fx ps) (tk : Nat) {h' : Heap}
    (hs : ∀ b o, b ∉ ps.map (·.1) → s.heap.get? b = some o → h'.get? b = some o) : Rep fx σ W { s with heap := h', toks := tk } := by
  refine R.elim fun e g m news G F N C => ?_
  have hpn : ∀ p ∈ ps, p ∈ news := fun p hp => C.exs p (List.mem_append_left _ hp)
  have hin : ∀ a ∈ ps.map (·.1), a ≠ fx.L ∧ g.get? a = none := fun a ha => by
    obtain ⟨o, ho⟩ := mem_keys ha
    exact (N _ (hpn _ ho)).2
  have hL : fx.L ∉ ps.map (·.1) := fun q => (hin _ q).1 rfl
  have hal : ∀ a ∈ W.al, a ∉ ps.map (·.1) := fun a ha q => by
    obtain ⟨o, ho⟩ := mem_keys q
    exact C.exd _ (List.mem_append_left _ ho) ha
  let f : Addr × Obj → Bool := fun p => decide (p.1 ∉ ps.map (·.1))
  have keepM : ∀ p ∈ news, p.1 ∉ ps.map (·.1) → p ∈ news.filter f := fun p hp q => List.mem_filter.mpr ⟨hp, by simpa [f] using q⟩
  refine ⟨rest_with e _ _, g, m, news.filter f, G, ⟨F.ns.at' fun o q => hs _ o hL q, fun b o q => hs b o (fun z => ?_) (F.keep b o q), F.above⟩, fun p hp => ?_, ?_⟩
  · have := (hin b z).2
    rw [show g.get? b = some o from q] at this; cases this
  · obtain ⟨h1, h2⟩ := List.mem_filter.mp hp
    exact ⟨hs _ _ (by simpa [f] using h2) (N p h1).1, (N p h1).2⟩
  refine ⟨nodup_filter_keys C.nd f, fun p hp => keepM p (C.exs p (List.mem_append_right _ hp)) (ok.dis p hp), fun p hp => C.exd p (List.mem_append_right _ hp), C.aln, C.len, fun i o h => ?_, fun t ht' => ?_, fun x v h => ?_, fun x c h => ?_, C.scc, C.mfx, fun p hp t ht' => C.ext p (List.mem_append_right _ hp) t ht'⟩
  · obtain ⟨a, ob, h1, h2, h3⟩ := C.obs i o h
    exact ⟨a, ob, h1, keepM _ h2 (hal a (List.mem_of_getElem? h1)), h3⟩
  · refine keepM _ (C.tps t ht') fun q => ?_
    obtain ⟨o, ho⟩ := mem_keys q
    exact C.ext _ (List.mem_append_left _ ho) t ht' rfl
  · obtain ⟨u, h1, h2⟩ := C.loc x v h
    refine ⟨u, h1, ?_⟩
    cases h2 with
    | loc a b c => exact .loc a b c
    | @comp o a b c =>
      refine .comp (o := o) a ?_ c
      rcases List.mem_append.mp b with b | b
      · exact absurd (List.mem_map_of_mem (f := (·.1)) b) ok.loc
      · exact b
    | cell a b c d => exact .cell a b (keepM _ c (ok.cel x _ b)) d
  · obtain ⟨h1, o, v, h2, h3⟩ := C.cel x c h
    exact ⟨h1, o, v, keepM _ h2 (ok.cel x c h), h3⟩

theorem Rep.exPush {fx : Fx} {σ : St} {W : Wd} {s : Shared} (R : Rep fx σ W s) (ps : List (Addr × Obj)) (nd : (ps.map (·.1)).Nodup) (tk : Nat) {h' : Heap}
    (hs : ∀ b o, s.heap.get? b = some o → h'.get? b = some o) (hf : ∀ p ∈ ps, s.heap.objs.size ≤ p.1) (hg : ∀ p ∈ ps, h'.get? p.1 = some p.2) (hl : ∃ o, s.heap.get? fx.env.locals = some o) :
    Rep (fx.pushL ps) σ W { s with heap := h', toks := tk } ∧ ExOk fx ps := by
  refine R.elim fun e g m news G F N C => ?_
  have old : ∀ a o, s.heap.get? a = some o → a ∉ ps.map (·.1) := fun a o h q => by
    obtain ⟨o', ho⟩ := mem_keys q
    exact Nat.not_lt.mpr (hf _ ho) (Heap.lt_size h)
  have oldN : ∀ p ∈ news, p.1 ∉ ps.map (·.1) := fun p hp => old _ _ (N p hp).1
  obtain ⟨oL, _, _, hL, _⟩ := F.ns
  refine ⟨⟨rest_with e _ _, g, m, ps ++ news, G, frKeeps F hs, fun p hp => ?_, ?_⟩, nd, fun p hp => oldN p (C.exs p hp), fun x c h => ?_, ?_⟩
  · rcases List.mem_append.mp hp with hp | hp
    · refine ⟨hg p hp, fun q => old _ _ hL ?_, ?_⟩
      · have := List.mem_map_of_mem (f := (·.1)) hp
        rw [q] at this
        exact this
      · cases q : g.get? p.1 with
        | none => rfl
        | some o => exact absurd (List.mem_map_of_mem (f := (·.1)) hp) (old _ _ (F.keep _ _ q))
    · exact ⟨hs _ _ (N p hp).1, (N p hp).2⟩
  · refine ⟨?_, fun p hp => ?_, fun p hp => ?_, C.aln, C.len, fun i o h => ?_, fun t ht => List.mem_append_right _ (C.tps t ht), fun x v h => ?_, fun x c h => ?_, C.scc, C.mfx, fun p hp t ht' => ?_⟩
    · rw [List.map_append]
      refine List.nodup_append.mpr ⟨nd, C.nd, fun a ha b hb q => ?_⟩
      obtain ⟨p, hp, rfl⟩ := List.mem_map.mp hb
      exact oldN p hp (q ▸ ha)
    · rcases List.mem_append.mp hp with hp | hp
      · exact List.mem_append_left _ hp
      · exact List.mem_append_right _ (C.exs p hp)
    · rcases List.mem_append.mp hp with hp | hp
      · intro q
        obtain ⟨o, ho⟩ := C.al_lt q
        exact oldN _ ho (List.mem_map_of_mem (f := (·.1)) hp)
      · exact C.exd p hp
    · obtain ⟨a, ob, h1, h2, h3⟩ := C.obs i o h
      exact ⟨a, ob, h1, List.mem_append_right _ h2, h3⟩
    · obtain ⟨u, h1, h2⟩ := C.loc x v h
      refine ⟨u, h1, ?_⟩
      cases h2 with
      | loc a b c => exact .loc a b c
      | comp a b c => exact .comp a (List.mem_append_right _ b) c
      | cell a b c d => exact .cell a b (List.mem_append_right _ c) d
    · obtain ⟨h1, o, v, h2, h3⟩ := C.cel x c h
      exact ⟨h1, o, v, List.mem_append_right _ h2, h3⟩
    · rcases List.mem_append.mp hp with hp | hp
      · intro q
        exact oldN _ (C.tps t ht') (q ▸ List.mem_map_of_mem (f := (·.1)) hp)
      · exact C.ext p hp t ht'
  · obtain ⟨_, o, v, h2, _⟩ := C.cel x c h
    exact oldN _ h2
  · obtain ⟨o, ho⟩ := hl
    exact old _ _ ho

theorem Rep.exPop {fx : Fx} {σ : St} {W : Wd} {s : Shared} {ps : List (Addr × Obj)} (R : Rep (fx.pushL ps) σ W s) {p : Addr × Obj} (hp : p ∈ ps) : s.heap.get? p.1 = some p.2 := by
  refine R.elim fun _ g m news G F N C => ?_
  exact (N p (C.exs p (List.mem_append_left _ hp))).1

end Mine

set_option autoImplicit false
namespace Mine
open PySem PySem.W PySem.Calls PySem.Spec PyProof.Rows

inductive Fl where
  | next | brk | cont
  | ret (v : V)
inductive FlR (W : Wd) : Fl → Flow → Prop
  | next : FlR W .next .next
  | brk : FlR W .brk .brk
  | cont : FlR W .cont .cont
  | ret {v : V} {u : Value} : VR W v u → FlR W (.ret v) (.ret u)

def PF (fx : Fx) (W : Wd) (Q : Fl → St → Prop) : Flow → Shared → Prop := fun f s' => ∃ W' σ' fl, W.le W' ∧ Rep fx σ' W' s' ∧ FlR W' fl f ∧ Q fl σ'
theorem PF.elim {fx : Fx} {W : Wd} {Q : Fl → St → Prop} {u : Flow} {s : Shared} {P : Prop} (x : PF fx W Q u s) (k : ∀ W' σ' v, W.le W' → Rep fx σ' W' s → FlR W' v u → Q v σ' → P) : P := by
  obtain ⟨W', σ', v, a, b, c, d⟩ := x
  exact k W' σ' v a b c d
theorem PF.mono {fx : Fx} {W W' : Wd} {Q Q' : Fl → St → Prop} (h : W.le W') (hq : ∀ v σ, Q v σ → Q' v σ) {u : Flow} {s : Shared} : PF fx W' Q u s → PF fx W Q' u s := by
  rintro ⟨W₁, σ, v, a, b, c, d⟩
  exact ⟨W₁, σ, v, h.trans a, b, c, hq _ _ d⟩

def EvS (fx : Fx) (X : XP) (st : Stmt) (σ : St) (Q : Fl → St → Prop) : Prop := ∀ W s, Rep fx σ W s → wpAny fx.M fx.A (exec st fx.env) (PF fx W Q) (PX fx W X) s
def EvSs (fx : Fx) (X : XP) (ss : List Stmt) (σ : St) (Q : Fl → St → Prop) : Prop := ∀ W s, Rep fx σ W s → wpAny fx.M fx.A (execs ss fx.env) (PF fx W Q) (PX fx W X) s

/-- what holds of a frame -/
structure FxAll (fx : Fx) : Prop where
  ok : FxOk fx
  locs : fx.env.locals = fx.L ∨ ∃ o, (fx.env.locals, o) ∈ fx.ex
  cex : fx.env.locals = fx.L → ∀ x c, fx.env.cells.lookup x = some c → ∀ p ∈ fx.ex, p.1 ≠ c
  cinj : ∀ x y c, fx.env.cells.lookup x = some c → fx.env.cells.lookup y = some c → x = y
  cdef : ∀ x, fx.env.kindOf x = some .cell → fx.env.cells.lookup x ≠ none
  scr : ∃ xs n o, fx.base.get? fx.sc = some o ∧ o.cls = .type "list" ∧ o.data = .seq (List.toArray xs) n ∧ IntsAre xs fx.ns ∧ fx.ns.length < 2 ^ 62
  egl : fx.env.globals = mainGlobals
  ebu : fx.env.builtins = builtinsNs
  top : Top fx.pg.p fx.pg.loose fx.pg.mean fx.pg.mg fx.pg.mb fx.base
  part : fx.pg.K.In fx.base
  below : Below fx.A₀ fx.base fx.outer fx.h₀
  dicts : KtsDicts (fx.outer.filterMap (·.frame)) fx.h₀
  frs : fx.A.frames = some (fx.fenv :: fx.outer)
  ffr : fx.fenv.frame = some fx.L
  fkd : fx.fenv.scope.kind = .function
  depth : fx.A.depth + fx.lev < recursionLimit
  room : fx.A.units + 8 * fx.lev + 100 < cLine
  mfn : fx.env.locals = fx.L → fx.mfix = none
  envf : fx.env.locals = fx.L → fx.env = fx.fenv

theorem FxAll.units {fx : Fx} (a : FxAll fx) : fx.A.units + 100 < cLine := by have := a.room; omega

theorem FxAll.ground {fx : Fx} (a : FxAll fx) {g : Heap} (G : KtsTurn (fx.outer.filterMap (·.frame)) fx.h₀ g) : Below fx.A₀ fx.base fx.outer g ∧ KtsDicts (fx.outer.filterMap (·.frame)) g := by
  have K := a.below
  refine ⟨⟨K.stack, fun b o e => G.other b o (K.stays b o e) (fun hm => ?_), K.frames.of_keeps fun b o e _ => ?_⟩, a.dicts.turn G⟩
  · rw [(K.frames.mem hm).1] at e
    cases e
  · obtain ⟨sl, hs⟩ := G.up e
    exact ⟨_, hs, rfl⟩
theorem FxAll.stays {fx : Fx} (a : FxAll fx) {σ : St} {W : Wd} {s : Shared} (R : Rep fx σ W s) : ∀ b o, fx.base.get? b = some o → s.heap.get? b = some o := by
  refine R.elim fun _ g m news G F N C => ?_
  exact fun b o e => F.keep b o ((a.ground G).1.stays b o e)

theorem FxAll.glbAt {fx : Fx} (a : FxAll fx) {A : Around} (x : Str) (v : Value) (pos : Pos) (h : fx.pg.gl x = some v) (hk : fx.env.kindOf x = some .globalImplicit) (s : Shared) (Q : Value → Shared → Prop) (E : Value → Shared → Prop) (st : ∀ b o, fx.base.get? b = some o → s.heap.get? b = some o) (q : Q v s)
    (hd : (x == ("__debug__" : Str)) = false) : wpAny fx.M A (eval (.Name x pos) fx.env) Q E s := by
  unfold Pg.gl at h
  split at h
  · rename_i v' e
    cases h
    exact Name_function_global a.ok.kind hk (loadGlobal_global (by rw [a.egl]; exact a.top.g.keeps st) (mg_of a.part a.top.g e) q) hd
  · rename_i e
    split at h
    · cases h
    · rename_i hn
      exact Name_function_global a.ok.kind hk (loadGlobal_builtin (by rw [a.egl]; exact a.top.g.keeps st) (mg_none_of a.part a.top.g e) (by rw [a.ebu]; exact a.top.b.keeps st) ((a.top.builtins x hn).trans h) q) hd
  · cases h
theorem FxAll.glb {fx : Fx} (a : FxAll fx) (x : Str) (v : Value) (pos : Pos) (h : fx.pg.gl x = some v) (hk : fx.env.kindOf x = some .globalImplicit) (σ : St) (W : Wd) (s : Shared) (Q : Value → Shared → Prop) (E : Value → Shared → Prop) (R : Rep fx σ W s) (q : Q v s)
    (hd : (x == ("__debug__" : Str)) = false) : wpAny fx.M fx.A (eval (.Name x pos) fx.env) Q E s := a.glbAt x v pos h hk s Q E (a.stays R) q hd

theorem Core.unpush {fx : Fx} {σ : St} {W : Wd} {m : Str → Option Value} {news ps : List (Addr × Obj)} (C : Core (fx.pushL ps) σ W m news) (hl : fx.env.locals ∉ ps.map (·.1)) : Core fx σ W m news := by
  refine ⟨C.nd, fun p hp => C.exs p (List.mem_append_right _ hp), fun p hp => C.exd p (List.mem_append_right _ hp), C.aln, C.len, C.obs, C.tps, fun x v h => ?_, C.cel, C.scc, C.mfx, fun p hp t ht => C.ext p (List.mem_append_right _ hp) t ht⟩
  obtain ⟨u, h1, h2⟩ := C.loc x v h
  refine ⟨u, h1, ?_⟩
  cases h2 with
  | loc a b c => exact .loc a b c
  | comp a b c =>
    refine .comp a ?_ c
    rcases List.mem_append.mp b with b | b
    · exact absurd (List.mem_map_of_mem (f := (·.1)) b) hl
    · exact b
  | cell a b c d => exact .cell a b c d
theorem PX.pushL {fx : Fx} {ps : List (Addr × Obj)} (hl : fx.env.locals ∉ ps.map (·.1)) {W : Wd} {X : XP} {u : Value} {s : Shared} : PX (fx.pushL ps) W X u s → PX fx W X u s := by
  rintro ⟨e, cls, k, W', σ', a, b, ⟨r, g, m, news, B, c, f⟩, d⟩
  exact ⟨e, cls, k, W', σ', a, b, ⟨r, g, m, news, B, ⟨c.turn, c.dic, c.size, c.ns, c.gB, c.fr, c.nw, c.core.unpush hl, c.base⟩, f⟩, d⟩
/-- what stands between a frame's exceptional end and its loops' -/
theorem PX.noted {fx : Fx} (ok : FxAll fx) (hL : fx.env.locals = fx.L) {W : Wd} {X : XP} {u : Value} {s : Shared} : PX fx W X u s → notedBy fx.M fx.A fx.env (cameBackBy fx.M fx.A fx.env (PX fx W X)) u s := by
  rintro ⟨e, cls, k, W', σ', rfl, b, x, d⟩
  rw [ok.envf hL]
  exact x.noted ok.frs ok.ffr fun h' x' => ⟨e, cls, _, W', σ', rfl, b, x', d⟩

theorem XRep.stays {fx : Fx} {σ : St} {W : Wd} {e : Addr} {cls : Value} {k : Kd} {s : Shared} (x : XRep fx σ W e cls k s) : ∀ b o, fx.base.get? b = some o → s.heap.get? b = some o := by
  obtain ⟨r, g, m, news, B, c, f⟩ := x
  exact fun b o q => f.stays.1 b o (c.base b o q)
theorem XRep.raise {fx : Fx} (ok : FxAll fx) {σ : St} {W : Wd} {s : Shared} (R : Rep fx σ W s) {h' : Heap} {e : Addr} {cls : Value} {vs : List Value} (hx : Heap.MadeExcOf s.heap h' e cls vs) : XRep fx σ W e cls .made { s with heap := h' } := by
  refine R.elim fun r g m news G F N C => ?_
  obtain ⟨BL, D⟩ := ok.ground G
  have K' := pushX BL F ok.ffr ok.fkd
  have hin : ∀ env ∈ (fx.fenv :: fx.outer), ∀ b, env.frame = some b → b ∈ (fx.fenv :: fx.outer).filterMap (·.frame) := fun env he b hb => List.mem_filterMap.mpr ⟨env, he, hb⟩
  obtain ⟨t, ht, _, _⟩ := hx.there
  refine ⟨rest_heap r _, g, m, news, hideAll s.heap ((fx.fenv :: fx.outer).filterMap (·.frame)), ⟨G, D, F.above, F.ns.keeps hx.keeps, fun b o e nm => hideAll_get _ (F.keep b o e) nm, fun b o e => ⟨o.slots, hx.keeps _ _ (F.keep b o e)⟩, fun p hp => ⟨hideAll_get _ (N p hp).1 ?_, (N p hp).2⟩, C, ?_⟩,
    .made (fun b o e => hx.keeps b o (of_hideAll _ e)) ?_ ((funFrames_hide K'.frames hin).of_keeps fun b o e _ => ⟨o, hx.keeps b o e, rfl⟩) ht rfl rfl rfl rfl⟩
  · intro hm
    rcases mem_frames ok.ffr hm with z | z
    · exact (N p hp).2.1 z
    · obtain ⟨o, es, n, h1, _⟩ := D _ z
      rw [(N p hp).2.2] at h1
      cases h1
  · exact fun b o q => hideAll_get _ (K'.stays b o q) fun hm => by rw [(K'.frames.mem hm).1] at q; cases q
  · cases q : (hideAll s.heap ((fx.fenv :: fx.outer).filterMap (·.frame))).get? e with
    | none => rfl
    | some o => have := of_hideAll _ q; rw [hx.new] at this; cases this
theorem XRep.catch {fx : Fx} (ok : FxAll fx) {σ : St} {W : Wd} {s : Shared} {e : Addr} {cls : Value} (x : XRep fx σ W e cls .fly s) :
    Rep fx σ W s ∧ ∀ C, cls = .ref C → Rep fx ⟨σ.loc, σ.hp ++ [.exn C]⟩ ⟨W.al ++ [e], W.tp, W.sc⟩ s ∧ VR ⟨W.al ++ [e], W.tp, W.sc⟩ (.ref σ.hp.length) (.ref e) := by
  obtain ⟨r, g, m, news, B, c, f⟩ := x
  have st := f.stays
  obtain ⟨oe, vs, he, hc, hd⟩ := f.there
  obtain ⟨T, S⟩ := kts_turn_at (h := s.heap) (fs := fx.outer.filterMap (·.frame)) (g := g) (fun b hb => let ⟨o, es, n, h1, _⟩ := c.dic b hb; ⟨o, h1⟩)
    (fun b o e nm => st.1 b o (c.gB b o e (fun hm => by
      rcases mem_frames ok.ffr hm with z | z
      · rw [z, ground_self c.size] at e; cases e
      · exact nm z))) (fun b o e _ => c.fr b o e)
  have F : Fr (ktsHeap s.heap (fx.outer.filterMap (·.frame)) g) fx.L s.heap m := ⟨c.ns, S, by rw [T.size]; exact c.size⟩
  have N : News (ktsHeap s.heap (fx.outer.filterMap (·.frame)) g) fx.L s.heap news := fun p hp => ⟨st.1 _ _ (c.nw p hp).1, (c.nw p hp).2.1, T.none_ _ (c.nw p hp).2.2⟩
  refine ⟨⟨r, _, m, news, c.turn.trans T, F, N, c.core⟩, fun C hC => ⟨⟨r, _, m, (e, oe) :: news, c.turn.trans T, F, fun p hp => ?_, c.core.add (fun p hp q => ?_) fun W' _ => .exn (hc.trans hC) hd⟩, .ref (by rw [← c.core.len]; simp)⟩⟩
  · rcases List.mem_cons.mp hp with rfl | hp
    · refine ⟨he, fun q => ?_, T.none_ _ ?_⟩
      · obtain ⟨oL, es, ep, h1, h2, _⟩ := c.ns
        dsimp only at q
        rw [← q, he] at h1
        cases h1
        rw [hd] at h2
        cases h2
      · dsimp only
        cases q : g.get? e with
        | none => rfl
        | some o =>
          by_cases z : e ∈ (fx.fenv :: fx.outer).filterMap (·.frame)
          · rcases mem_frames ok.ffr z with y | y
            · rw [y, ground_self c.size] at q; cases q
            · obtain ⟨o', es, n, e1, e2⟩ := c.dic e y
              rw [q] at e1
              cases e1
              obtain ⟨sl, e3⟩ := c.fr e o q
              rw [he] at e3
              cases e3
              rw [show ({ o with slots := sl } : Obj).data = o.data from rfl, e2] at hd
              cases hd
          · have := c.gB e o q z
            rw [st.2] at this
            cases this
    · exact N p hp
  · have := (c.nw p hp).1
    rw [q, st.2] at this
    cases this

theorem Rep.unpush {fx : Fx} {σ : St} {W : Wd} {s : Shared} {ps : List (Addr × Obj)} (R : Rep (fx.pushL ps) σ W s) (hl : fx.env.locals ∉ ps.map (·.1)) : Rep fx σ W s := by
  refine R.elim fun e g m news G F N C => ?_
  refine ⟨e, g, m, news, G, F, N, C.nd, fun p hp => C.exs p (List.mem_append_right _ hp), fun p hp => C.exd p (List.mem_append_right _ hp), C.aln, C.len, C.obs, C.tps, fun x v h => ?_, C.cel, C.scc, C.mfx, fun p hp t ht => C.ext p (List.mem_append_right _ hp) t ht⟩
  obtain ⟨u, h1, h2⟩ := C.loc x v h
  refine ⟨u, h1, ?_⟩
  cases h2 with
  | loc a b c => exact .loc a b c
  | comp a b c =>
    refine .comp a ?_ c
    rcases List.mem_append.mp b with b | b
    · exact absurd (List.mem_map_of_mem (f := (·.1)) b) hl
    · exact b
  | cell a b c d => exact .cell a b c d

theorem FxAll.pushL {fx : Fx} (a : FxAll fx) {ps : List (Addr × Obj)} (ok : ExOk fx ps) : FxAll (fx.pushL ps) where
  ok := ⟨a.ok.kind, a.ok.handled⟩
  locs := a.locs.imp id fun ⟨o, h⟩ => ⟨o, List.mem_append_right _ h⟩
  cex := fun hL x c h p hp => by
    rcases List.mem_append.mp hp with hp | hp
    · exact fun q => ok.cel x c h (q ▸ List.mem_map_of_mem (f := (·.1)) hp)
    · exact a.cex hL x c h p hp
  cinj := a.cinj
  cdef := a.cdef
  scr := a.scr
  egl := a.egl
  ebu := a.ebu
  top := a.top
  part := a.part
  below := a.below
  dicts := a.dicts
  frs := a.frs
  ffr := a.ffr
  fkd := a.fkd
  depth := a.depth
  room := a.room
  mfn := a.mfn
  envf := a.envf

theorem Rep.locals_at {fx : Fx} (a : FxAll fx) {σ : St} {W : Wd} {s : Shared} (R : Rep fx σ W s) : ∃ o, s.heap.get? fx.env.locals = some o := by
  refine R.elim fun _ g m news G F N C => ?_
  rcases a.locs with h | ⟨o, h⟩
  · obtain ⟨oL, _, _, hL, _⟩ := F.ns
    exact ⟨oL, h ▸ hL⟩
  · exact ⟨o, (N _ (C.exs _ h)).1⟩

section
variable {fx : Fx} {X : XP} {σ : St}

theorem EvS.mono {st : Stmt} {Q Q' : Fl → St → Prop} (h : EvS fx X st σ Q) (hq : ∀ v σ', Q v σ' → Q' v σ') : EvS fx X st σ Q' :=
  fun W s R => wpAny_mono (h W s R) (fun _ _ x => x.mono (.refl _) hq) fun _ _ x => x
theorem EvSs.mono {ss : List Stmt} {Q Q' : Fl → St → Prop} (h : EvSs fx X ss σ Q) (hq : ∀ v σ', Q v σ' → Q' v σ') : EvSs fx X ss σ Q' :=
  fun W s R => wpAny_mono (h W s R) (fun _ _ x => x.mono (.refl _) hq) fun _ _ x => x

theorem evSs_nil {Q : Fl → St → Prop} (h : Q .next σ) : EvSs fx X [] σ Q := fun W _ R => wpAny_execs_nil ⟨W, σ, .next, .refl _, R, .next, h⟩
theorem evSs_cons {st : Stmt} {rest : List Stmt} {Q : Fl → St → Prop} (h : EvS fx X st σ (fun fl σ₁ => match fl with | .next => EvSs fx X rest σ₁ Q | f => Q f σ₁)) : EvSs fx X (st :: rest) σ Q := by
  intro W s R
  refine wpAny_execs_cons (wpAny_mono (h W s R) ?_ fun _ _ x => x)
  refine fun f s₁ zz => zz.elim fun W₁ σ₁ fl le₁ R₁ r₁ h₁ => ?_
  cases r₁ with
  | next => exact wpAny_mono (h₁ W₁ s₁ R₁) (fun _ _ x => x.mono le₁ fun _ _ y => y) fun _ _ x => x.mono le₁ fun _ _ y => y
  | brk => exact ⟨W₁, σ₁, .brk, le₁, R₁, .brk, h₁⟩
  | cont => exact ⟨W₁, σ₁, .cont, le₁, R₁, .cont, h₁⟩
  | ret r => exact ⟨W₁, σ₁, .ret _, le₁, R₁, .ret r, h₁⟩

theorem evReturn {e : Expr} {pos : Pos} {Q : Fl → St → Prop} (h : EvE fx X e σ (fun v σ₁ => Q (.ret v) σ₁)) : EvS fx X (.Return (some e) pos) σ Q := by
  intro W s R
  refine wpAny_Return_some (wpAny_mono (h W s R) ?_ fun _ _ x => x)
  refine fun u s₁ zz => zz.elim fun W₁ σ₁ v le₁ R₁ r₁ h₁ => ?_
  exact ⟨W₁, σ₁, .ret v, le₁, R₁, .ret r₁, h₁⟩
theorem evIf {t : Expr} {b o : List Stmt} {pos : Pos} {Q : Fl → St → Prop} (h : EvB fx X t σ (fun c σ₁ => if c then EvSs fx X b σ₁ Q else EvSs fx X o σ₁ Q)) : EvS fx X (.If t b o pos) σ Q := by
  intro W s R
  refine wpAny_If (wpAny_mono (h W s R) ?_ fun _ _ x => x)
  refine fun c s₁ zz => zz.elim fun W₁ σ₁ le₁ R₁ h₁ => ?_
  cases c with
  | true => exact wpAny_mono (h₁ W₁ s₁ R₁) (fun _ _ x => x.mono le₁ fun _ _ y => y) fun _ _ x => x.mono le₁ fun _ _ y => y
  | false => exact wpAny_mono (h₁ W₁ s₁ R₁) (fun _ _ x => x.mono le₁ fun _ _ y => y) fun _ _ x => x.mono le₁ fun _ _ y => y

def notComp : Expr → Bool
  | .ListComp .. | .SetComp .. | .DictComp .. => false
  | _ => true
theorem swaps_false {e : Expr} (h : notComp e = true) (t : Option Expr) (n : Nat) (env : Env) : swapsWith e t n env = pure false := by
  cases e <;> first | rfl | cases h

theorem evExpr (ok : FxOk fx) {e : Expr} {pos : Pos} {Q : Fl → St → Prop} (h : EvE fx X e σ (fun _ σ₁ => Q .next σ₁)) (hc : notComp e = true) : EvS fx X (.Expr e pos) σ Q := by
  intro W s R
  refine wpAny_Expr_any (wpAny_mono (h W s R) ?_ fun _ _ x => x) (by simp [interactive, ok.kind]) (swaps_false hc _ _ _)
  refine fun u s₁ zz => zz.elim fun W₁ σ₁ v le₁ R₁ r₁ h₁ => ?_
  exact ⟨W₁, σ₁, .next, le₁, R₁, .next, h₁⟩

def isVar (fx : Fx) (x : Str) : Prop := fx.env.locals = fx.L ∧ (fx.env.kindOf x = some .local ∨ fx.env.kindOf x = some .cell)

theorem storeVar (ok : FxAll fx) {x : Str} (hx : isVar fx x) {W : Wd} {s : Shared} {v : V} {u : Value} (R : Rep fx σ W s) (r : VR W v u) {Q : Unit → Shared → Prop} {E : Value → Shared → Prop}
    (k : ∀ h' tk, Rep fx (σ.set x v) W { s with heap := h', toks := tk } → Q () { s with heap := h', toks := tk }) : wpAny fx.M fx.A (storeName fx.env x u) Q E s := by
  obtain ⟨hL, hk | hk⟩ := hx
  · obtain ⟨_, g, m, news, G, F, N, C⟩ := id R
    refine wpAny_storeName_local hk (by rw [hL]; exact F.ns) (fun h' hn hs => k _ _ (R.setLoc r hk hL (ok.mfn hL) _ (by simp) ?_ (hL ▸ hn) (hL ▸ hs))) (by rw [ok.ok.kind]; rfl)
    intro y hy m' hm'
    simp only [hy, if_false]
    obtain ⟨o, es, ep, a1, a2, _, a4⟩ := F.ns
    obtain ⟨o', es', ep', b1, b2, _, b4⟩ := hm'
    rw [a1] at b1; cases b1
    rw [a2] at b2; cases b2
    rw [← a4, ← b4]
  · obtain ⟨e, g, m, news, G, F, N, C⟩ := id R
    cases hc : fx.env.cells.lookup x with
    | none => exact absurd hc (ok.cdef x hk)
    | some c =>
      obtain ⟨h1, o, v₀, h2, h3⟩ := C.cel x c hc
      refine wpAny_storeName_cell ok.ok.kind hk hc ⟨o, N.get h2, h3⟩ fun h' hv hs => ?_
      obtain ⟨o', ho', hd'⟩ := hv
      obtain ⟨F', N'⟩ := fr_upd F N h2 hs.extBut ho'
      refine k h' s.toks ⟨rest_with e _ _, g, m, setL c o' news, G, F', N', ?_⟩
      have other : ∀ p ∈ news, p.1 ≠ c → p ∈ setL c o' news := fun p hp q => setL_ne hp q
      refine ⟨by rw [setL_keys]; exact C.nd, fun p hp => other p (C.exs p hp) (ok.cex hL x c hc p hp), C.exd, C.aln, C.len, fun i o₁ h => ?_, fun t ht => other _ (C.tps t ht) fun q => ?_, fun y w h => ?_, fun y c' h => ?_, C.scc, C.mfx, C.ext⟩
      · obtain ⟨a, ob, k1, k2, k3⟩ := C.obs i o₁ h
        exact ⟨a, ob, k1, other _ k2 fun q => h1 (q ▸ List.mem_of_getElem? k1), k3⟩
      · dsimp only at q
        have := C.tps t ht
        rw [q] at this
        rw [← key_inj C.nd this h2] at h3
        cases h3
      · by_cases q : y = x
        · subst q
          simp [St.set, setN] at h
          subst h
          exact ⟨u, r, .cell (.inl hk) hc (setL_self h2) hd'⟩
        · simp [St.set, setN, q] at h
          obtain ⟨u', k1, k2⟩ := C.loc y w h
          refine ⟨u', k1, ?_⟩
          cases k2 with
          | loc a b d => exact .loc a b d
          | comp a b d => exact .comp a b d
          | cell a b d f => exact .cell a b (other _ d fun z => q (ok.cinj y x c (by rw [b]; exact congrArg some z) hc)) f
      · obtain ⟨k1, o₁, w, k2, k3⟩ := C.cel y c' h
        by_cases q : c' = c
        · subst q
          exact ⟨k1, o', _, setL_self h2, hd'⟩
        · exact ⟨k1, o₁, w, other _ k2 q, k3⟩

theorem evAssignName (ok : FxAll fx) {x : Str} {p pos : Pos} {e : Expr} {Q : Fl → St → Prop} (hx : isVar fx x) (h : EvE fx X e σ (fun v σ₁ => Q .next (σ₁.set x v))) (hc : notComp e = true) : EvS fx X (.Assign [.Name x p] e pos) σ Q := by
  intro W s R
  refine wpAny_Assign_Name (wpAny_mono (h W s R) ?_ fun _ _ x => x) (swaps_false hc _ _ _)
  refine fun u s₁ zz => zz.elim fun W₁ σ₁ v le₁ R₁ r₁ h₁ => ?_
  exact storeVar ok hx R₁ r₁ fun _ _ R₂ => ⟨W₁, _, .next, le₁, R₂, .next, h₁⟩

theorem evWhile (ok : FxAll fx) (hL : fx.env.locals = fx.L) {t : Expr} {b : List Stmt} {pos : Pos} {Q : Fl → St → Prop} (J : Nat → St → Prop) (m : Nat) (h0 : J m σ)
    (turn : ∀ m σ', J m σ' → EvB fx X t σ' (fun c σ₁ => if c then EvSs fx X b σ₁ (fun fl σ₂ => match fl with | .next | .cont => ∃ m', m' < m ∧ J m' σ₂ | .brk => Q .next σ₂ | .ret v => Q (.ret v) σ₂) else Q .next σ₁)) :
    EvS fx X (.While t b [] pos) σ Q := by
  intro W s R
  refine wpAny_While (codeAny_whileLoop (fun n s' => ∃ W' σ', W.le W' ∧ Rep fx σ' W' s' ∧ J n σ') ?_ m ⟨W, σ, .refl _, R, h0⟩)
  rintro n s' ⟨W', σ', le', R', hJ⟩
  refine wpAny_mono (turn n σ' hJ W' s' R') ?_ fun _ _ x => ((x.mono le' fun _ _ y => y).noted ok hL)
  refine fun c s₁ zz => zz.elim fun W₁ σ₁ le₁ R₁ h₁ => ?_
  cases c with
  | true =>
    refine wpAny_mono (h₁ W₁ s₁ R₁) ?_ fun _ _ x => (x.mono (le'.trans le₁) fun _ _ y => y).noted ok hL
    refine fun f s₂ zz => zz.elim fun W₂ σ₂ fl le₂ R₂ r₂ h₂ => ?_
    cases r₂ with
    | next => exact h₂.elim fun k hk => ⟨k, hk.1, W₂, σ₂, (le'.trans le₁).trans le₂, R₂, hk.2⟩
    | cont => exact h₂.elim fun k hk => ⟨k, hk.1, W₂, σ₂, (le'.trans le₁).trans le₂, R₂, hk.2⟩
    | brk => exact ⟨W₂, σ₂, .next, (le'.trans le₁).trans le₂, R₂, .next, h₂⟩
    | ret r => exact ⟨W₂, σ₂, .ret _, (le'.trans le₁).trans le₂, R₂, .ret r, h₂⟩
  | false => exact wpAny_execs_nil ⟨W₁, σ₁, .next, le'.trans le₁, R₁, .next, h₁⟩

/-- what an iterator yields -/
structure Src (fx : Fx) (W₀ : Wd) (its : List V) (need : St → Prop) (Io : Addr) (st : Nat → List (Addr × Obj) → Prop) : Prop where
  tup : ∀ k ps, st k ps → ∀ p ∈ ps, ∀ xs, p.2 ≠ tupObj xs
  own : ∀ qs (k : Nat) ps (σ : St) W s (t : Expr) (u : Value), st k ps → Rep ((fx.pushL qs).pushL ps) σ W s → ∀ (Q : Unit → Shared → Prop) (E : Value → Shared → Prop), Q () s → wpAny fx.M fx.A (letOwnedTupleGo t (.ref Io) u) Q E s
  self : ∀ qs (k : Nat) ps (σ : St) W s, st k ps → Rep ((fx.pushL qs).pushL ps) σ W s → ∀ (Q : Value → Shared → Prop) (E : Value → Shared → Prop), Q (.ref Io) s → wpAny fx.M fx.A (pyIter (.ref Io)) Q E s
  next : ∀ qs (k : Nat) ps (σ : St) W s (hk : k < its.length), W₀.le W → st k ps → ExOk (fx.pushL qs) ps → Rep ((fx.pushL qs).pushL ps) σ W s → need σ → ∀ (Q : Option Value → Shared → Prop) (E : Value → Shared → Prop),
    (∀ u ps' W' h' tk', st (k + 1) ps' → ps'.map (·.1) = ps.map (·.1) → W.le W' → VR W' its[k] u → Rep ((fx.pushL qs).pushL ps') σ W' { s with heap := h', toks := tk' } → Q (some u) { s with heap := h', toks := tk' }) →
    wpAny fx.M fx.A (pyNext (.ref Io)) Q E s
  done : ∀ qs ps (σ : St) W s, W₀.le W → st its.length ps → ExOk (fx.pushL qs) ps → Rep ((fx.pushL qs).pushL ps) σ W s → need σ → ∀ (Q : Option Value → Shared → Prop) (E : Value → Shared → Prop),
    (∀ h' tk', Rep (fx.pushL qs) σ W { s with heap := h', toks := tk' } → Q none { s with heap := h', toks := tk' }) → wpAny fx.M fx.A (pyNext (.ref Io)) Q E s

def IterT (fx : Fx) (X : XP) (iter : Expr) (σ : St) (P : List V → (St → Prop) → St → Prop) : Prop :=
  ∀ W s, Rep fx σ W s → wpAny fx.M fx.A (eval iter fx.env) (fun xv s₁ => wpAny fx.M fx.A (pyIter xv) (fun it s₂ => ∃ Io st ps W' σ' its need, it = .ref Io ∧ W.le W' ∧ Src fx W' its need Io st ∧ st 0 ps ∧ ExOk fx ps ∧
    Rep (fx.pushL ps) σ' W' s₂ ∧ P its need σ') (PX fx W X) s₁) (PX fx W X) s
theorem IterT.mono {iter : Expr} {P P' : List V → (St → Prop) → St → Prop} (h : IterT fx X iter σ P) (hp : ∀ its need σ', P its need σ' → P' its need σ') : IterT fx X iter σ P' := by
  refine fun W s R => wpAny_mono (h W s R) (fun _ _ x => wpAny_mono x ?_ fun _ _ e => e) fun _ _ e => e
  rintro _ _ ⟨Io, st, ps, W', σ', its, need, a, b, c, d, e, f, g⟩
  exact ⟨Io, st, ps, W', σ', its, need, a, b, c, d, e, f, hp _ _ _ g⟩

def AsgT (fx : Fx) (X : XP) (t : Expr) (v : V) (σ : St) (Q : St → Prop) : Prop :=
  ∀ W s u, Rep fx σ W s → VR W v u → wpAny fx.M fx.A (assign t fx.env u) (PU fx W Q) (PX fx W X) s
theorem asgName (ok : FxAll fx) {x : Str} {p : Pos} {v : V} {Q : St → Prop} (hx : isVar fx x) (h : Q (σ.set x v)) : AsgT fx X (.Name x p) v σ Q := fun W _ _ R r =>
  wpAny_bind (wpAny_standAt (wpAny_bindName (storeVar ok hx R r fun _ _ R₂ => ⟨W, _, .refl _, R₂, h⟩)))

theorem evFor (ok : FxAll fx) (hL : fx.env.locals = fx.L) {t iter : Expr} {b : List Stmt} {pos : Pos} {Q : Fl → St → Prop}
    (h : IterT fx X iter σ (fun its need σ₁ => ∃ J : Nat → St → Prop, J 0 σ₁ ∧ (∀ k σ', J k σ' → need σ') ∧
      (∀ (k : Nat) σ' (hk : k < its.length), J k σ' → ∀ ps, FxAll (fx.pushL ps) → AsgT (fx.pushL ps) X t its[k] σ' (fun σ₁ => EvSs (fx.pushL ps) X b σ₁ (fun fl σ₂ => match fl with | .next | .cont => J (k + 1) σ₂ | .brk => Q .next σ₂ | .ret v => Q (.ret v) σ₂))) ∧
      ∀ σ', J its.length σ' → Q .next σ'))
    (hs : ∀ x, foldedSetIterable iter fx.env x = pure x) : EvS fx X (.For t iter b [] pos) σ Q := by
  intro W s R
  refine wpAny_For (wpAny_mono (h W s R) (fun xv s₁ h₁ => wpAny_mono h₁ (fun it s₂ h₂ => ?_) fun _ _ e => e) fun _ _ e => e) hs
  obtain ⟨Io, st, ps, W₀, σ₀, its, need, rfl, le₀, S, hst, hex, R₀, J, h0, hn, turn, fin⟩ := h₂
  have drop : ∀ ps' (σ' : St) W' s', ExOk fx ps' → Rep (fx.pushL ps') σ' W' s' → Rep fx σ' W' s' := fun ps' σ' W' s' o r => r.unpush o.loc
  refine codeAny_forLoop_any (fun n s' => ∃ k ps' W' σ', n = its.length - k ∧ k ≤ its.length ∧ W₀.le W' ∧ st k ps' ∧ ExOk fx ps' ∧ Rep (fx.pushL ps') σ' W' s' ∧ J k σ') ?_ its.length ⟨0, ps, W₀, σ₀, rfl, Nat.zero_le _, .refl _, hst, hex, R₀, h0⟩
  rintro n s' ⟨k, ps', W', σ', rfl, hk, le₁', hst', hex', R', hJ⟩
  have le' := le₀.trans le₁'
  rcases Nat.lt_or_ge k its.length with hlt | hge
  · refine S.next [] k ps' σ' W' s' hlt le₁' hst' hex' R' (hn k σ' hJ) _ _ fun u ps'' W'' h'' tk'' hst'' hkey le'' r'' R'' => ?_
    have hex'' : ExOk fx ps'' := ⟨hkey ▸ hex'.nd, hkey ▸ hex'.dis, hkey ▸ hex'.cel, hkey ▸ hex'.loc⟩
    refine S.own [] (k + 1) ps'' σ' W'' _ t u hst'' R'' _ _ ?_
    refine wpAny_mono (turn k σ' hlt hJ ps'' (ok.pushL hex'') W'' _ u R'' r'') ?_ fun _ _ x => ((x.pushL hex''.loc).mono (le'.trans le'') fun _ _ y => y).noted ok hL
    refine fun _ s₃ zz => zz.elim fun W₃ σ₃ le₃ R₃ h₃ => ?_
    refine wpAny_mono (h₃ W₃ s₃ R₃) ?_ fun _ _ x => ((x.pushL hex''.loc).mono ((le'.trans le'').trans le₃) fun _ _ y => y).noted ok hL
    refine fun f s₄ zz => zz.elim fun W₄ σ₄ fl le₄ R₄ r₄ h₄ => ?_
    have LE := ((le'.trans le'').trans le₃).trans le₄
    have LE₁ := ((le₁'.trans le'').trans le₃).trans le₄
    cases r₄ with
    | next => exact ⟨its.length - (k + 1), by omega, k + 1, ps'', W₄, σ₄, rfl, hlt, LE₁, hst'', hex'', R₄, h₄⟩
    | cont => exact ⟨its.length - (k + 1), by omega, k + 1, ps'', W₄, σ₄, rfl, hlt, LE₁, hst'', hex'', R₄, h₄⟩
    | brk => exact ⟨W₄, σ₄, .next, LE, drop _ _ _ _ hex'' R₄, .next, h₄⟩
    | ret r => exact ⟨W₄, σ₄, .ret _, LE, drop _ _ _ _ hex'' R₄, .ret r, h₄⟩
  · obtain rfl : k = its.length := Nat.le_antisymm hk hge
    exact S.done [] ps' σ' W' s' le₁' hst' hex' R' (hn _ σ' hJ) _ _ fun h'' tk'' R'' => wpAny_execs_nil ⟨W', σ', .next, le', R'', .next, fin σ' hJ⟩
end
end Mine

set_option autoImplicit false
namespace Mine
open PySem PySem.W PySem.Calls PySem.Spec PyProof.Rows

section
variable {fx : Fx} {X : XP} {σ : St} {W : Wd} {s : Shared}

theorem Rep.list_at (R : Rep fx σ W s) {i : Nat} {vs : List V} {u : Value} (ho : σ.hp[i]? = some (.list vs)) (r : VR W (.ref i) u) : ∃ a xs n, u = .ref a ∧ W.al[i]? = some a ∧ s.heap.get? a = some (listObj xs n) ∧ VRs W vs xs := by
  refine R.elim fun _ g m news G F N C => ?_
  obtain ⟨a, ob, h1, h2, h3⟩ := C.obs i _ ho
  cases r with
  | ref e =>
    rw [h1] at e
    cases e
    cases h3 with
    | list n q => exact ⟨a, _, n, rfl, h1, (N _ h2).1, q⟩
theorem Rep.tup_at (R : Rep fx σ W s) {vs : List V} {u : Value} (r : VR W (.tup vs) u) : ∃ a xs, u = .ref a ∧ s.heap.get? a = some (tupObj xs) ∧ VRs W vs xs := by
  refine R.elim fun _ g m news G F N C => ?_
  cases r with
  | tup e q => exact ⟨_, _, rfl, (N _ (C.tps _ e)).1, q⟩
theorem listObj_isList {h : Heap} {a : Addr} {xs : List Value} {n : Nat} (e : h.get? a = some (listObj xs n)) : h.IsList a xs.toArray := ⟨_, e, rfl, n, rfl⟩
theorem tupObj_isTup {h : Heap} {a : Addr} {xs : List Value} (e : h.get? a = some (tupObj xs)) : IsTup h a xs.toArray := ⟨_, e, rfl, 0, rfl⟩

/-! data -/
mutual
inductive Dat (hp : List O) : V → PyData → Prop
  | none : Dat hp .none .none
  | bool (b : Bool) : Dat hp (.bool b) (.bool b)
  | int (n : Int) : Dat hp (.int n) (.int n)
  | str (x : Str) : Dat hp (.str x) (.str x)
  | tup {vs : List V} {ds : List PyData} : Dats hp vs ds → Dat hp (.tup vs) (.tuple ds)
  | list {i : Nat} {vs : List V} {ds : List PyData} : hp[i]? = some (.list vs) → Dats hp vs ds → Dat hp (.ref i) (.list ds)
inductive Dats (hp : List O) : List V → List PyData → Prop
  | nil : Dats hp [] []
  | cons {v : V} {vs : List V} {d : PyData} {ds : List PyData} : Dat hp v d → Dats hp vs ds → Dats hp (v :: vs) (d :: ds)
end
mutual
theorem Dat.reads (R : Rep fx σ W s) : ∀ {v : V} {d : PyData}, Dat σ.hp v d → ∀ {u : Value}, VR W v u → ∃ as, Reads s.heap u d as
  | _, _, .none => fun r => by cases r; exact ⟨_, .none⟩
  | _, _, .bool b => fun r => by cases r; exact ⟨_, .bool b⟩
  | _, _, .int n => fun r => by cases r; exact ⟨_, .int n _⟩
  | _, _, .str x => fun r => by cases r; exact ⟨_, .str x _⟩
  | _, _, .tup ds => fun r => by
    obtain ⟨a, xs, rfl, h1, h2⟩ := R.tup_at r
    obtain ⟨as, q⟩ := Dats.reads R ds h2
    exact ⟨_, .tuple h1 rfl rfl (by simpa using q)⟩
  | _, _, .list ho ds => fun r => by
    obtain ⟨a, xs, n, rfl, _, h1, h2⟩ := R.list_at ho r
    obtain ⟨as, q⟩ := Dats.reads R ds h2
    exact ⟨_, .list h1 rfl rfl (by simpa using q)⟩
theorem Dats.reads (R : Rep fx σ W s) : ∀ {vs : List V} {ds : List PyData}, Dats σ.hp vs ds → ∀ {us : List Value}, VRs W vs us → ∃ as, ReadsAll s.heap us ds as
  | _, _, .nil => fun r => by cases r; exact ⟨_, .nil⟩
  | _, _, .cons a b => fun r => by
    cases r with
    | cons c d =>
      obtain ⟨as, h1⟩ := Dat.reads R a c
      obtain ⟨bs, h2⟩ := Dats.reads R b d
      exact ⟨_, .cons h1 h2⟩
end

theorem dats_ints (hp : List O) : ∀ ns : List Int, Dats hp (ns.map .int) (ns.map .int)
  | [] => .nil
  | n :: r => .cons (.int n) (dats_ints hp r)

/-! binary operations -/
theorem bin_addT {x y : Int} {Q : V → St → Prop} (h : Q (.int (x + y)) σ) : BinT fx X .Add (.int x) (.int y) σ Q := by
  intro W s u₁ u₂ R r₁ r₂; cases r₁; cases r₂; exact add_int (.here (R.toks _) (.int _ _) h)
theorem bin_subT {x y : Int} {Q : V → St → Prop} (h : Q (.int (x - y)) σ) : BinT fx X .Sub (.int x) (.int y) σ Q := by
  intro W s u₁ u₂ R r₁ r₂; cases r₁; cases r₂; exact sub_int (.here (R.toks _) (.int _ _) h)
theorem bin_mulT {x y : Int} {Q : V → St → Prop} (q : x.natAbs < 2 ^ 64 ∨ y.natAbs < 2 ^ 64) (h : Q (.int (x * y)) σ) : BinT fx X .Mult (.int x) (.int y) σ Q := by
  intro W s u₁ u₂ R r₁ r₂; cases r₁; cases r₂
  refine PyProof.Rows.mul_int (.here (R.toks _) (.int _ _) h) ?_
  rcases q with q | q
  · exact .of_left (intBits_le q)
  · exact .of_right (intBits_le q)
theorem bin_modT {x y : Int} {Q : V → St → Prop} (q : 0 < y) (h : Q (.int (x % y)) σ) : BinT fx X .Mod (.int x) (.int y) σ Q := by
  intro W s u₁ u₂ R r₁ r₂; cases r₁; cases r₂
  exact mod_int' (Int.ne_of_gt q) (.here (R.toks _) (.int _ _) (by rw [Int.fmod_eq_emod_of_nonneg _ (Int.le_of_lt q)]; exact h))
theorem bin_divT {x y : Int} {Q : V → St → Prop} (q : 0 < y) (q' : y < 2 ^ 30) (h : Q (.int (x / y)) σ) : BinT fx X .FloorDiv (.int x) (.int y) σ Q := by
  intro W s u₁ u₂ R r₁ r₂; cases r₁; cases r₂
  exact floordiv_int (Int.ne_of_gt q) (.here (R.toks _) (.int _ _) (by rw [Int.fdiv_eq_ediv_of_nonneg _ (Int.le_of_lt q)]; exact h)) (.inl (PyProof.noPylong_small (by omega)))
theorem bin_powT {x y : Int} {Q : V → St → Prop} (q : 0 ≤ y ∧ y ≤ 1000000 ∧ x.natAbs < 2 ^ 64) (h : Q (.int (x ^ y.toNat)) σ) : BinT fx X .Pow (.int x) (.int y) σ Q := by
  intro W s u₁ u₂ R r₁ r₂; cases r₁; cases r₂; exact pow_int_small q.1 q.2.1 q.2.2 (.here (R.toks _) (.int _ _) h)
theorem bin_listsT {i j : Nat} {vs ws : List V} {Q : V → St → Prop} (h1 : σ.hp[i]? = some (.list vs)) (h2 : σ.hp[j]? = some (.list ws)) (h3 : vs.length + ws.length ≤ sizeLine) (h4 : Q (.ref σ.hp.length) ⟨σ.loc, σ.hp ++ [.list (vs ++ ws)]⟩) : BinT fx X .Add (.ref i) (.ref j) σ Q := by
  intro W s u₁ u₂ R r₁ r₂
  obtain ⟨a, xs, n, rfl, _, k1, k2⟩ := R.list_at h1 r₁
  obtain ⟨b, ys, n', rfl, _, k3, k4⟩ := R.list_at h2 r₂
  refine R.elim fun er g m news G F N C => ?_
  refine add_lists F N (listObj_isList k1) (listObj_isList k3) (fun h' F' N' => ?_) (by rw [← k2.length, ← k4.length]; exact h3)
  obtain ⟨W', le', hD, R'⟩ := Rep.addN er G C (o := .list (vs ++ ws)) F' N' (fun p hp => Nat.ne_of_lt (Heap.lt_size (N p hp).1)) fun W' le => .list 0 ((k2.mono le).append (k4.mono le))
  exact ⟨W', _, .ref σ.hp.length, le', R', .ref hD, h4⟩

/-! comparisons -/
theorem cmp_eqT (hu : fx.A.units + 64 < cLine) {a b : V} {da db : PyData} {Q : V → St → Prop} (h1 : Dat σ.hp a da) (h2 : Dat σ.hp b db) (h3 : PySem.SeqAt.shaped da = true) (h4 : PySem.SeqAt.shaped db = true) (h5 : Q (.bool (PyData.eqv da db)) σ) : CmpT fx X .Eq a b σ Q := by
  intro W s u₁ u₂ R r₁ r₂
  obtain ⟨as, ra⟩ := h1.reads R r₁
  obtain ⟨bs, rb⟩ := h2.reads R r₂
  exact eq_dataH ra rb h3 h4 hu (.here R (.bool _) h5)
theorem cmp_neT (hu : fx.A.units + 64 < cLine) {a b : V} {da db : PyData} {Q : V → St → Prop} (h1 : Dat σ.hp a da) (h2 : Dat σ.hp b db) (h3 : PySem.SeqAt.shaped da = true) (h4 : PySem.SeqAt.shaped db = true) (h5 : Q (.bool (!PyData.eqv da db)) σ) : CmpT fx X .NotEq a b σ Q := by
  intro W s u₁ u₂ R r₁ r₂
  obtain ⟨as, ra⟩ := h1.reads R r₁
  obtain ⟨bs, rb⟩ := h2.reads R r₂
  exact ne_dataH ra rb h3 h4 hu (.here R (.bool _) h5)
theorem cmp_ltT {x y : Int} {Q : V → St → Prop} (h : Q (.bool (decide (x < y))) σ) : CmpT fx X .Lt (.int x) (.int y) σ Q := by
  intro W s u₁ u₂ R r₁ r₂; cases r₁; cases r₂; exact lt_int (.here R (.bool _) h)
theorem cmp_gtT {x y : Int} {Q : V → St → Prop} (h : Q (.bool (decide (y < x))) σ) : CmpT fx X .Gt (.int x) (.int y) σ Q := by
  intro W s u₁ u₂ R r₁ r₂; cases r₁; cases r₂; exact gt_int (.here R (.bool _) h)
theorem cmp_leT {x y : Int} {Q : V → St → Prop} (h : Q (.bool (decide (x ≤ y))) σ) : CmpT fx X .LtE (.int x) (.int y) σ Q := by
  intro W s u₁ u₂ R r₁ r₂; cases r₁; cases r₂; exact le_int (.here R (.bool _) h)
theorem tru_boolT {b : Bool} {Q : Bool → St → Prop} (h : Q b σ) : TruT fx X (.bool b) σ Q := by
  intro W s u R r; cases r; exact wpAny_truthy_bool (.here R h)
theorem un_notT {v : V} {Q : V → St → Prop} (h : TruT fx X v σ fun b σ' => Q (.bool (!b)) σ') : UnT fx X .Not v σ Q := by
  intro W s u R r
  refine not_of (wpAny_mono (h W s u R r) ?_ fun _ _ x => x)
  refine fun b s₁ zz => zz.elim fun W₁ σ₁ a b' c => ?_
  exact ⟨W₁, σ₁, _, a, b', .bool _, c⟩
theorem un_negT {n : Int} {Q : V → St → Prop} (h : Q (.int (-n)) σ) : UnT fx X .USub (.int n) σ Q := by
  intro W s u R r; cases r; exact PyProof.Rows.neg_int (.here (R.toks _) (.int _ _) h)
end
end Mine

set_option autoImplicit false
namespace Mine
open PySem PySem.W PySem.Calls PySem.Spec PyProof.Rows

/-! sources of loops -/
theorem own_go {M : Model} {A : Around} {E : Value → Shared → Prop} {s : Shared} {Io : Addr} {ob : Obj} {n : String} {vs : Array Value} (hg : s.heap.get? Io = some ob) (hc : ob.cls = .type n) (hd : ob.data = .fields vs)
    (hn : (["enumerate", "zip", "dict_itemiterator", "dict_reverseitemiterator", "odict_iterator", "itertools.zip_longest", "itertools.pairwise"] : List String).contains n = false) (t : Expr) (u : Value) {Q : Unit → Shared → Prop} (q : Q () s) :
    wpAny M A (letOwnedTupleGo t (.ref Io) u) Q E s := by
  unfold letOwnedTupleGo
  split
  · split
    · rename_i e
      cases e
      refine wpAny_bind (wpAny_load hg ?_)
      rw [hc, hd]
      dsimp only
      rw [hn]
      exact wpAny_pure q
    · exact wpAny_pure q
  · split
    · rename_i e
      cases e
      refine wpAny_bind (wpAny_load hg ?_)
      rw [hc, hd]
      dsimp only
      rw [hn]
      exact wpAny_pure q
    · exact wpAny_pure q
  · exact wpAny_pure q

section
variable {fx : Fx} {X : XP} {σ : St} {W : Wd} {s : Shared}

def listItSt (Io a : Addr) (k : Nat) (ps : List (Addr × Obj)) : Prop := ∃ ob : Obj, ps = [(Io, ob)] ∧ ob.cls = .type "list_iterator" ∧ ob.data = .fields #[.ref a, .int k 0]

theorem src_list (hh : fx.A.handled = none) {i : Nat} {its : List V} {a Io : Addr} (ha : W.al[i]? = some a) : Src fx W its (fun σ' => σ'.hp[i]? = some (.list its)) Io (listItSt Io a) where
  tup := by
    rintro k ps ⟨ob, rfl, hc, hd⟩ p hp xs e
    rw [List.mem_singleton.mp hp] at e
    rw [show ob = tupObj xs from e] at hc
    simp at hc
  own := by
    rintro qs k ps σ' W' s' t u ⟨ob, rfl, hc, hd⟩ R Q E q
    exact own_go (R.exPop (List.mem_singleton.mpr rfl)) hc hd (by decide) t u q
  self := by
    rintro qs k ps σ' W' s' ⟨ob, rfl, hc, hd⟩ R Q E q
    exact wpAny_pyIter_listiter ⟨ob, R.exPop (List.mem_singleton.mpr rfl), hc, hd⟩ q
  next := by
    rintro qs k ps σ' W' s' hk le ⟨ob, rfl, hc, hd⟩ ok R need Q E q
    have hg := R.exPop (List.mem_singleton.mpr rfl)
    obtain ⟨a', xs, n, ea, h1, h2, h3⟩ := R.list_at need (.ref (prefix_get le.1 ha))
    cases ea
    obtain ⟨x, hx, hv⟩ := h3.get (show its[k]? = some its[k] by simp [hk])
    refine wpAny_pyNext_list_item ⟨ob, hg, hc, hd⟩ (listObj_isList h2) (by simpa using hx) fun h' hit hs => ?_
    obtain ⟨ob', hg', hc', hd'⟩ := hit
    have R' := R.exSwap ok [(Io, ob')] rfl s'.toks
      (fun b o hb e => (hs.2 b (by simpa using hb)).trans e) (fun p hp => by rw [List.mem_singleton.mp hp]; exact hg')
    exact q x [(Io, ob')] W' h' s'.toks ⟨ob', rfl, hc', hd'⟩ rfl (.refl _) hv R'
  done := by
    rintro qs ps σ' W' s' le ⟨ob, rfl, hc, hd⟩ ok R need Q E q
    have hg := R.exPop (List.mem_singleton.mpr rfl)
    obtain ⟨a', xs, n, ea, h1, h2, h3⟩ := R.list_at need (.ref (prefix_get le.1 ha))
    cases ea
    refine wpAny_pyNext_list_end hh ⟨ob, hg, hc, hd⟩ (listObj_isList h2) (by simp [h3.length]) fun h' he => ?_
    exact q h' s'.toks (R.exDrop ok _ fun b o hb e => he b o (by simpa using hb) e)

def rngItems (a : Int) (n : Nat) : List V := (List.range n).map fun (j : Nat) => V.int (a + (j : Int))
theorem rngItems_length (a : Int) (n : Nat) : (rngItems a n).length = n := by simp [rngItems]
theorem rngItems_get (a : Int) (n k : Nat) (h : k < (rngItems a n).length) : (rngItems a n)[k] = .int (a + (k : Int)) := by simp [rngItems]

abbrev rngObj (x l : Int) : Obj := { cls := .type "range_iterator", dict := none, data := .fields #[rawInt x, rawInt l, rawInt 1], slots := #[] }
theorem rngObj_not (x l : Int) (xs : List Value) : rngObj x l ≠ tupObj xs := fun e => by
  have := congrArg Obj.cls e
  simp at this
def rngItSt (Io : Addr) (a : Int) (n : Nat) (k : Nat) (ps : List (Addr × Obj)) : Prop :=
  ps = [(Io, rngObj (a + (k : Int)) ((n : Int) - (k : Int)))]

theorem src_range (hh : fx.A.handled = none) {a : Int} {n : Nat} {Io : Addr} : Src fx W (rngItems a n) (fun _ => True) Io (rngItSt Io a n) where
  tup := by
    rintro k ps rfl p hp xs e
    rw [List.mem_singleton.mp hp] at e
    exact rngObj_not _ _ _ e
  own := by
    rintro qs k ps σ' W' s' t u rfl R Q E q
    exact own_go (R.exPop (List.mem_singleton.mpr rfl)) rfl rfl (by decide) t u q
  self := by
    rintro qs k ps σ' W' s' rfl R Q E q
    exact wpAny_pyIter_rangeiter (R.exPop (List.mem_singleton.mpr rfl)) q
  next := by
    rintro qs k ps σ' W' s' hk le rfl ok R need Q E q
    have hg := R.exPop (List.mem_singleton.mpr rfl)
    have hk' : k < n := by rwa [rngItems_length] at hk
    refine wpAny_pyNext_range_item (it := Io) (x := a + (k : Int)) (left := (n : Int) - (k : Int)) (step := 1) hg (by omega) fun h' hit hs => ?_
    have e1 : a + (k : Int) + 1 = a + ((k + 1 : Nat) : Int) := by push_cast; omega
    have e2 : (n : Int) - (k : Int) - 1 = (n : Int) - ((k + 1 : Nat) : Int) := by push_cast; omega
    rw [e1, e2] at hit
    have R' := R.exSwap ok [(Io, rngObj (a + ((k + 1 : Nat) : Int)) ((n : Int) - ((k + 1 : Nat) : Int)))] rfl (s'.toks + 1)
      (fun b o hb e => (hs.2 b (by simpa using hb)).trans e) (fun p hp => by rw [List.mem_singleton.mp hp]; exact hit)
    exact q _ _ W' h' (s'.toks + 1) rfl rfl (.refl _) (by rw [rngItems_get]; exact .int _ _) R'
  done := by
    rintro qs ps σ' W' s' le hst ok R need Q E q
    rw [rngItems_length] at hst
    cases hst
    have hg := R.exPop (List.mem_singleton.mpr rfl)
    refine wpAny_pyNext_range_end (it := Io) (x := a + (n : Int)) (left := (n : Int) - (n : Int)) (step := 1) hh hg (by omega) fun h' he => ?_
    exact q h' s'.toks (R.exDrop ok _ fun b o hb e => he b o (by simpa using hb) e)

/-- the iterator made -/
def PIt (fx : Fx) (W : Wd) (P : List V → (St → Prop) → St → Prop) : Value → Shared → Prop := fun it s₂ => ∃ Io st ps W' σ' its need, it = .ref Io ∧ W.le W' ∧ Src fx W' its need Io st ∧ st 0 ps ∧ ExOk fx ps ∧
    Rep (fx.pushL ps) σ' W' s₂ ∧ P its need σ'

def SrvT (fx : Fx) (v : V) (σ : St) (P : List V → (St → Prop) → St → Prop) : Prop := ∀ W s u (E : Value → Shared → Prop), Rep fx σ W s → VR W v u → wpAny fx.M fx.A (pyIter u) (PIt fx W P) E s
theorem srv_refT (ok : FxAll fx) (hq : fx.qt = true) {i : Nat} {its : List V} {P : List V → (St → Prop) → St → Prop} (e : σ.hp[i]? = some (.list its)) (h : P its (fun σ' => σ'.hp[i]? = some (.list its)) σ) : SrvT fx (.ref i) σ P := by
  intro W s u E R r
  obtain ⟨a, xs, n, rfl, ha, h2, h3⟩ := R.list_at e r
  refine wpAny_pyIter_list (listObj_isList h2) ?_
  obtain ⟨R', ok'⟩ := R.exPush [(s.heap.objs.size, ({ cls := .type "list_iterator", data := .fields #[.ref a, .int 0 0] } : Obj))] (by simp) s.toks
    (fun b o e => Heap.get?_push_of_some _ e) (fun p hp => by rw [List.mem_singleton.mp hp]; exact Nat.le_refl _) (fun p hp => by rw [List.mem_singleton.mp hp]; exact Heap.get?_push_size _ rfl) (R.locals_at ok)
  exact ⟨_, _, _, W, σ, its, _, rfl, .refl _, src_list (ok.ok.handled hq) ha, ⟨_, rfl, rfl, rfl⟩, ok', R', h⟩
/-! calls of the built-in functions -/
def CallT (fx : Fx) (X : XP) (f : Value) (vs : List V) (σ : St) (Q : V → St → Prop) : Prop :=
  ∀ W s us, Rep fx σ W s → VRs W vs us → wpAny fx.M fx.A (call f us) (PV fx W Q) (PX fx W X) s

theorem ScrAt (ok : FxAll fx) {σ : St} (R : Rep fx σ W s) : ∃ xs, s.heap.IsList W.sc (List.toArray xs) ∧ IntsAre xs fx.ns ∧ fx.ns.length < 2 ^ 62 := by
  have st := ok.stays R
  refine R.elim fun _ g m news G F N C => ?_
  obtain ⟨xs, n, o, h1, h2, h3, h4, h5⟩ := ok.scr
  exact ⟨xs, ⟨o, st _ _ (C.scc ▸ h1), h2, n, h3⟩, h4, h5⟩

theorem len_refT {i : Nat} {vs : List V} {Q : V → St → Prop} (ev : σ.hp[i]? = some (.list vs)) (hn : vs.length < 2 ^ 63) (h : Q (.int vs.length) σ) : CallT fx X (.builtin "len") [.ref i] σ Q := by
  intro W s us R r
  cases r with
  | cons r r' =>
    cases r'
    obtain ⟨a, xs, c, rfl, ha, h2, h3⟩ := R.list_at ev r
    refine call_len_list (listObj_isList h2) (by simp [← h3.length]; omega) ?_
    have e1 : (xs.toArray.size : Int) = (vs.length : Int) := by simp [h3.length]
    rw [e1]
    exact .here (R.toks _) (.int _ _) h
theorem len_scrT (ok : FxAll fx) {Q : V → St → Prop} (h : Q (.int fx.ns.length) σ) : CallT fx X (.builtin "len") [.scr] σ Q := by
  intro W s us R r
  cases r with
  | cons r r' =>
    cases r'
    cases r
    obtain ⟨xs, h1, h2, h3⟩ := ScrAt ok R
    refine call_len_list h1 (by simp [h2.length]; omega) ?_
    have e1 : (xs.toArray.size : Int) = (fx.ns.length : Int) := by simp [h2.length]
    rw [e1]
    exact .here (R.toks _) (.int _ _) h

theorem abs_ok {a : Int} {Q : V → St → Prop} (h : Q (.int (if a < 0 then -a else a)) σ) : CallT fx X (.builtin "abs") [.int a] σ Q := by
  intro W s us R r
  cases r with
  | cons r₁ r =>
    cases r; cases r₁
    exact call_abs_int fun u tk => .here (R.toks _) (.int _ _) h
theorem intBool_ok {b : Bool} {Q : V → St → Prop} (h : Q (.int (if b then 1 else 0)) σ) : CallT fx X (.type "int") [.bool b] σ Q := by
  intro W s us R r
  cases r with
  | cons r₁ r =>
    cases r; cases r₁
    exact call_int_bool (.here (R.toks _) (.int _ _) h)

theorem listOf_ok {v : V} {vs : List V} {Q : V → St → Prop} (e : (∃ i, v = .ref i ∧ σ.hp[i]? = some (.list vs)) ∨ v = .tup vs) (hl : vs.length ≤ sizeLine) (h : Q (.ref σ.hp.length) ⟨σ.loc, σ.hp ++ [.list vs]⟩) : CallT fx X (.type "list") [v] σ Q := by
  intro W s us R r
  cases r with
  | cons r₁ r =>
    cases r
    have fin : ∀ (xs : List Value) (c' : Nat) (h' : Heap), VRs W vs xs → (∀ b o', s.heap.get? b = some o' → h'.get? b = some o') → h'.get? s.heap.objs.size = some (listObj xs c') → PV fx W Q (.ref s.heap.objs.size) { s with heap := h' } := by
      intro xs c' h' hv hk hg
      refine R.elim fun er g m news G F N C => ?_
      have hle : W.le ⟨W.al ++ [s.heap.objs.size], W.tp, W.sc⟩ := ⟨List.prefix_append _ _, fun _ h => h, rfl⟩
      have fresh : ∀ p ∈ news, p.1 ≠ s.heap.objs.size := fun p hp => Nat.ne_of_lt (Heap.lt_size (N p hp).1)
      obtain ⟨oL, _, _, hL, _⟩ := F.ns
      refine ⟨⟨W.al ++ [s.heap.objs.size], W.tp, W.sc⟩, ⟨σ.loc, σ.hp ++ [.list vs]⟩, .ref σ.hp.length, hle, ⟨rest_with er _ _, g, m, (s.heap.objs.size, listObj xs c') :: news, G, frKeeps F hk, fun p hp => ?_, ?_⟩, .ref (by simp [← C.len]), h⟩
      · rcases List.mem_cons.mp hp with rfl | hp
        · refine ⟨hg, Nat.ne_of_gt (Heap.lt_size hL), ?_⟩
          cases hq : g.get? s.heap.objs.size with
          | none => rfl
          | some o' => exact absurd (Heap.lt_size (F.keep _ _ hq)) (Nat.lt_irrefl _)
        · exact ⟨hk _ _ (N p hp).1, (N p hp).2⟩
      · refine ⟨newsNodup N C.nd _, fun p hp => .tail _ (C.exs p hp), fun p hp hm => ?_, ?_, by simp [C.len], fun i o' h => ?_, fun t ht => .tail _ (C.tps t ht), fun x v h => ?_, fun x c h => ?_, C.scc, C.mfx, C.ext⟩
        · rcases List.mem_append.mp hm with hm | hm
          · exact C.exd p hp hm
          · exact fresh p (C.exs p hp) (List.mem_singleton.mp hm)
        · refine List.nodup_append.mpr ⟨C.aln, by simp, fun a ha b hb => ?_⟩
          rw [List.mem_singleton.mp hb]
          obtain ⟨o', ho'⟩ := C.al_lt ha
          exact fresh _ ho'
        · dsimp only at h
          rcases Nat.lt_trichotomy i σ.hp.length with q | q | q
          · rw [List.getElem?_append_left q] at h
            obtain ⟨a, ob', h1, h2, h3⟩ := C.obs i o' h
            exact ⟨a, ob', prefix_get hle.1 h1, .tail _ h2, h3.mono hle⟩
          · subst q
            simp at h
            subst h
            exact ⟨_, _, by simp [← C.len], .head _, .list c' (hv.mono hle)⟩
          · rw [List.getElem?_eq_none (by simp; omega)] at h
            cases h
        · obtain ⟨u, h1, h2⟩ := C.loc x v h
          exact ⟨u, h1.mono hle, h2.mono fun p hp => .tail _ hp⟩
        · obtain ⟨h1, o', v, h2, h3⟩ := C.cel x c h
          refine ⟨fun hm => ?_, o', v, .tail _ h2, h3⟩
          rcases List.mem_append.mp hm with hm | hm
          · exact h1 hm
          · exact fresh _ h2 (List.mem_singleton.mp hm)
    rcases e with ⟨i, rfl, hi⟩ | rfl
    · obtain ⟨a, xs, c, rfl, ha, h2, h3⟩ := R.list_at hi r₁
      exact call_list_seq (hsz := by simp [← h3.length]; exact hl) a (.inl rfl) h2 rfl rfl fun h' c' hk hD => fin xs c' h' h3 hk hD
    · obtain ⟨a, xs, rfl, h2, h3⟩ := R.tup_at r₁
      exact call_list_seq (hsz := by simp [← h3.length]; exact hl) a (.inr rfl) h2 rfl rfl fun h' c' hk hD => fin xs c' h' h3 hk hD

theorem isi_list {a : Addr} {o : Obj} {T : String} {A : Around} {E : Value → Shared → Prop} {prog : Program} {w : World} {Q : Value → Shared → Prop} (ho : s.heap.get? a = some o) (hc : o.cls = .type "list") (hT : T = "int" ∨ T = "bool" ∨ T = "list" ∨ T = "tuple" ∨ T = "str")
    (h : ∀ tk, Q (.bool (decide (T = "list"))) { s with toks := tk }) : wpAny (model prog w) A (call (.builtin "isinstance") [.ref a, .type T]) Q E s := by
  have no : ∀ T, (Value.type "list" == Value.type T) = false → typeOf (.type T) = pure (.type "type") → isSubtype (.type "list") (.type T) = pure false → (∀ tk, Q (.bool false) { s with toks := tk }) → wpAny (model prog w) A (call (.builtin "isinstance") [.ref a, .type T]) Q E s :=
    fun T h1 h2 h3 k => call_isinstance (isinstance_false_list h1 h2 h3) ⟨⟨o, ho, hc⟩, k _⟩
  rcases hT with rfl | rfl | rfl | rfl | rfl
  · exact no "int" (by decide) F.isi_meta_int (by rw [isSubtype_type]; kernel_rfl) h
  · exact no "bool" (by decide) F.isi_meta_bool (by rw [isSubtype_type]; kernel_rfl) h
  · exact call_isinstance (isinstance_true (Tx := "list") F.isi_meta_list (by rw [isSubtype_type]; kernel_rfl)) ⟨⟨o, ho, hc⟩, h s.toks⟩
  · exact no "tuple" (by decide) F.isi_meta_tuple (by rw [isSubtype_type]; kernel_rfl) h
  · exact no "str" (by decide) F.isi_meta_str (by rw [isSubtype_type]; kernel_rfl) h
theorem isi_tup {a : Addr} {o : Obj} {T : String} {A : Around} {E : Value → Shared → Prop} {prog : Program} {w : World} {Q : Value → Shared → Prop} (ho : s.heap.get? a = some o) (hc : o.cls = .type "tuple") (hT : T = "int" ∨ T = "bool" ∨ T = "list" ∨ T = "tuple" ∨ T = "str")
    (h : ∀ tk, Q (.bool (decide (T = "tuple"))) { s with toks := tk }) : wpAny (model prog w) A (call (.builtin "isinstance") [.ref a, .type T]) Q E s := by
  have no : ∀ T, (Value.type "tuple" == Value.type T) = false → typeOf (.type T) = pure (.type "type") → isSubtype (.type "tuple") (.type T) = pure false → (∀ tk, Q (.bool false) { s with toks := tk }) → wpAny (model prog w) A (call (.builtin "isinstance") [.ref a, .type T]) Q E s :=
    fun T h1 h2 h3 k => call_isinstance (isinstance_false_tuple h1 h2 h3) ⟨⟨o, ho, hc⟩, k _⟩
  rcases hT with rfl | rfl | rfl | rfl | rfl
  · exact no "int" (by decide) F.isi_meta_int (by rw [isSubtype_type]; kernel_rfl) h
  · exact no "bool" (by decide) F.isi_meta_bool (by rw [isSubtype_type]; kernel_rfl) h
  · exact no "list" (by decide) F.isi_meta_list (by rw [isSubtype_type]; kernel_rfl) h
  · exact call_isinstance (isinstance_true (Tx := "tuple") F.isi_meta_tuple (by rw [isSubtype_type]; kernel_rfl)) ⟨⟨o, ho, hc⟩, h s.toks⟩
  · exact no "str" (by decide) F.isi_meta_str (by rw [isSubtype_type]; kernel_rfl) h

/-- isinstance, by how the value lies -/
theorem isi_of {v : V} {T : String} {c : Bool} {Q : V → St → Prop} (e : ∀ W s u (Q : Value → Shared → Prop) (E : Value → Shared → Prop), Rep fx σ W s → VR W v u → (∀ tk, Q (.bool c) { s with toks := tk }) → wpAny fx.M fx.A (call (.builtin "isinstance") [u, .type T]) Q E s) (h : Q (.bool c) σ) : CallT fx X (.builtin "isinstance") [v, .glob (.type T)] σ Q := by
  intro W s us R r
  cases r with
  | cons r₁ r =>
    cases r with
    | cons r₂ r =>
      cases r; cases r₂
      exact e W s _ _ _ R r₁ fun tk => .here (R.toks tk) (.bool _) h

/-! places -/
def getI (xs : List V) (k : Int) : Option V := if 0 ≤ k then xs[k.toNat]? else if -(xs.length : Int) ≤ k then xs[(k + xs.length).toNat]? else none

def SubT (fx : Fx) (X : XP) (value slice : Expr) (o i : V) (σ : St) (Q : V → St → Prop) : Prop :=
  ∀ W s u₁ u₂, Rep fx σ W s → VR W o u₁ → VR W i u₂ → wpAny fx.M fx.A (subscriptTail value slice u₁ u₂) (PV fx W Q) (PX fx W X) s

def notSlice : Expr → Bool
  | .Slice .. => false
  | _ => true
theorem subscripted_plain {slice : Expr} (h : notSlice slice = true) (o i : Value) : subscripted slice false o i = operate [o, i] (getItem o i) := by
  cases slice <;> first | rfl | cases h

theorem sub_list {value slice : Expr} (hs : notSlice slice = true) {j : Nat} {xs : List V} {k : Int} {v : V} {Q : V → St → Prop} (ho : σ.hp[j]? = some (.list xs)) (hk : -(2 ^ 63) ≤ k ∧ k < 2 ^ 63) (e : getI xs k = some v) (h : Q v σ) :
    SubT fx X value slice (.ref j) (.int k) σ Q := by
  intro W s u₁ u₂ R r₁ r₂
  obtain ⟨a, ys, n, rfl, ha, h2, h3⟩ := R.list_at ho r₁
  cases r₂
  have hl := listObj_isList h2
  refine tail_any hl.typeIs slot_list_getitem.lookup ?_ (subscripted_plain hs _ _)
  unfold getI at e
  split at e
  · rename_i h0
    obtain ⟨x, hx, hv⟩ := h3.get e
    exact wpAny_getItem_list hl h0 hk.2 (by simpa using hx) (.here R hv h)
  · rename_i h0
    split at e
    · rename_i h1
      obtain ⟨x, hx, hv⟩ := h3.get e
      exact wpAny_getItem_list_neg hl (by omega) (by simpa [h3.length] using h1) hk.1 (by simpa [h3.length] using hx) (.here R hv h)
    · cases e
theorem sub_scr (ok : FxAll fx) {value slice : Expr} (hs : notSlice slice = true) {k : Int} {n : Int} {Q : V → St → Prop} (h0 : 0 ≤ k) (e : fx.ns[k.toNat]? = some n) (h : Q (.int n) σ) :
    SubT fx X value slice .scr (.int k) σ Q := by
  intro W s u₁ u₂ R r₁ r₂
  cases r₁; cases r₂
  obtain ⟨xs, h1, h2, h3⟩ := ScrAt ok R
  obtain ⟨t, hx⟩ := h2.get k.toNat n e
  have hlt : k.toNat < fx.ns.length := by
    rcases Nat.lt_or_ge k.toNat fx.ns.length with z | z
    · exact z
    · rw [List.getElem?_eq_none z] at e; cases e
  refine tail_any h1.typeIs slot_list_getitem.lookup ?_ (subscripted_plain hs _ _)
  exact wpAny_getItem_list h1 h0 (by omega) (by simpa using hx) (.here R (.int _ _) h)

theorem evSub {value slice : Expr} {pos : Pos} {Q : V → St → Prop} (h : EvE fx X value σ (fun o σ₁ => EvE fx X slice σ₁ (fun i σ₂ => SubT fx X value slice o i σ₂ Q))) : EvE fx X (.Subscript value slice pos) σ Q := by
  intro W s R
  refine Subscript_ (wpAny_mono (h W s R) ?_ fun _ _ x => x)
  refine fun u₁ s₁ zz => zz.elim fun W₁ σ₁ a le₁ R₁ r₁ h₁ => ?_
  refine wpAny_mono (h₁ W₁ s₁ R₁) ?_ fun _ _ x => x.mono le₁ fun _ _ y => y
  refine fun u₂ s₂ zz => zz.elim fun W₂ σ₂ b le₂ R₂ r₂ h₂ => ?_
  exact wpAny_mono (h₂ W₂ s₂ u₁ u₂ R₂ (r₁.mono le₂) r₂) (fun _ _ x => x.mono (le₁.trans le₂) fun _ _ y => y) fun _ _ x => x.mono (le₁.trans le₂) fun _ _ y => y

/-! a list grows -/
theorem append_ok {i : Nat} {vs : List V} {v : V} {Q : V → St → Prop} (ho : σ.hp[i]? = some (.list vs)) (hl : vs.length ≤ sizeLine) (h : Q .none ⟨σ.loc, σ.hp.set i (.list (vs ++ [v]))⟩) : CallT fx X (.builtin "list.append") [.ref i, v] σ Q := by
  intro W s us R r
  cases r with
  | cons r₁ r =>
    cases r with
    | cons r₂ r =>
      cases r
      obtain ⟨a, xs, n, rfl, ha, h2, h3⟩ := R.list_at ho r₁
      refine wpAny_list_append_plain (hsz := by simp [← h3.length]; exact hl) ⟨n, h2⟩ fun h' hp hs => ?_
      obtain ⟨n', hg⟩ := hp
      rename_i y
      refine ⟨W, _, .none, .refl _, R.upd ho ha (.list (xs := xs ++ [y]) n' (h3.append (.cons r₂ .nil))) s.toks hs.extBut (by simpa using hg), .none, h⟩

/-- a method of a built-in type is found -/
def GetM (fx : Fx) (v : V) (name : Str) (id : String) (σ : St) : Prop := ∀ W s u (pl : Sem Bool) (Q : Value × List Value → Shared → Prop) (E : Value → Shared → Prop), Rep fx σ W s → VR W v u → Q (.builtin id, [u]) s → wpAny fx.M fx.A (getMethod u name pl) Q E s

theorem getM_list {i : Nat} {vs : List V} {name : Str} {id : String} (ho : σ.hp[i]? = some (.list vs)) (slot : Slot "list" name id) (hty : typeOf (.builtin id) = pure (.type "method_descriptor")) : GetM fx (.ref i) name id σ := by
  intro W s u pl Q E R r q
  obtain ⟨a, xs, n, rfl, ha, h2, h3⟩ := R.list_at ho r
  exact getMethod_builtin ⟨_, h2, rfl⟩ PySem.F.plainAttrs_list slot hty (fun b e => by cases e; exact ⟨_, h2, rfl⟩) q

def noStar : Expr → Bool
  | .Starred .. => false
  | _ => true
theorem star_cons {e : Expr} (h : noStar e = true) (rest : List Expr) (env : Env) : starEach (e :: rest) env = (false, eval e env) :: starEach rest env := by
  cases e <;> first | rfl | cases h
theorem star_any : ∀ {es : List Expr}, es.all noStar = true → ∀ (pos : Pos) (env : Env), (backTo pos (starEach es env)).any (·.1) = false
  | [], _, _, _ => rfl
  | e :: r, h, pos, env => by
    rw [List.all_cons, Bool.and_eq_true] at h
    rw [star_cons h.1]
    have := star_any h.2 pos env
    simpa [backTo] using this

theorem evCallB (ok : FxAll fx) {f : Str} {p pos : Pos} {id : String} {e : Expr} {rest : List Expr} {Q : V → St → Prop} (hf : fx.pg.gl f = some (.builtin id)) (hk : fx.env.kindOf f = some .globalImplicit) (hd : (f == ("__debug__" : Str)) = false) (hs : (e :: rest).all noStar = true)
    (h : EvEs fx X (e :: rest) σ (fun vs σ₁ => CallT fx X (.builtin id) vs σ₁ Q)) : EvE fx X (.Call (.Name f p) (e :: rest) [] pos) σ Q := by
  intro W s R
  rw [List.all_cons, Bool.and_eq_true] at hs
  refine Call_Name rfl (ok.glb f _ p hf hk σ W s _ _ R ?_ hd)
  refine callWith_builtin1 (wpAny_mono (h W s pos R) ?_ fun _ _ x => x) (star_cons hs.1 _ _) (star_any hs.2 _ _)
  refine fun us s₁ zz => zz.elim fun W₁ σ₁ vs le₁ R₁ r₁ h₁ => ?_
  exact wpAny_mono (h₁ W₁ s₁ us R₁ r₁) (fun _ _ x => x.mono le₁ fun _ _ y => y) fun _ _ x => x.mono le₁ fun _ _ y => y
theorem evCallTy (ok : FxAll fx) {f : Str} {p pos : Pos} {T : String} {e : Expr} {rest : List Expr} {Q : V → St → Prop} (hf : fx.pg.gl f = some (.type T)) (hk : fx.env.kindOf f = some .globalImplicit) (hd : (f == ("__debug__" : Str)) = false) (hs : (e :: rest).all noStar = true)
    (h : EvEs fx X (e :: rest) σ (fun vs σ₁ => CallT fx X (.type T) vs σ₁ Q)) : EvE fx X (.Call (.Name f p) (e :: rest) [] pos) σ Q := by
  intro W s R
  rw [List.all_cons, Bool.and_eq_true] at hs
  refine Call_Name rfl (ok.glb f _ p hf hk σ W s _ _ R ?_ hd)
  refine PyProof.Rows.callWith_type1 (wpAny_mono (h W s pos R) ?_ fun _ _ x => x) (star_cons hs.1 _ _) (star_any hs.2 _ _)
  refine fun us s₁ zz => zz.elim fun W₁ σ₁ vs le₁ R₁ r₁ h₁ => ?_
  exact wpAny_mono (h₁ W₁ s₁ us R₁ r₁) (fun _ _ x => x.mono le₁ fun _ _ y => y) fun _ _ x => x.mono le₁ fun _ _ y => y

def gV : Value → V
  | .int n _ => .int n
  | .str x _ => .str x
  | .bool b => .bool b
  | .none => .none
  | v => .glob v
theorem gV_ok (W : Wd) (v : Value) : VR W (gV v) v := by
  cases v <;> simp only [gV] <;> first | exact .none | exact .bool _ | exact .int _ _ | exact .str _ _ | exact .glob _
theorem evGlob (ok : FxAll fx) {x : Str} {pos : Pos} {v : Value} {Q : V → St → Prop} (hx : fx.pg.gl x = some v) (hk : fx.env.kindOf x = some .globalImplicit) (hd : (x == ("__debug__" : Str)) = false) (h : Q (gV v) σ) : EvE fx X (.Name x pos) σ Q :=
  fun W s R => ok.glb x v pos hx hk σ W s _ _ R (.here R (gV_ok W v) h) hd

def RngP (vs : List V) (P : List V → Prop) : Prop :=
  (∃ n : Int, vs = [.int n] ∧ (-(2 ^ 62) ≤ n ∧ n < 2 ^ 62) ∧ P (rngItems 0 n.toNat)) ∨ ∃ a b : Int, vs = [.int a, .int b] ∧ ((-(2 ^ 62) ≤ a ∧ a < 2 ^ 62) ∧ (-(2 ^ 62) ≤ b ∧ b < 2 ^ 62)) ∧ P (rngItems a (b - a).toNat)
theorem iter_range (ok : FxAll fx) (hq : fx.qt = true) {f : Str} {p pos : Pos} {e : Expr} {rest : List Expr} {P : List V → (St → Prop) → St → Prop} (hf : fx.pg.gl f = some (.type "range")) (hk : fx.env.kindOf f = some .globalImplicit) (hd : (f == ("__debug__" : Str)) = false) (hs : (e :: rest).all noStar = true)
    (h : EvEs fx X (e :: rest) σ (fun vs σ₁ => RngP vs fun its => P its (fun _ => True) σ₁)) : IterT fx X (.Call (.Name f p) (e :: rest) [] pos) σ P := by
  intro W s R
  rw [List.all_cons, Bool.and_eq_true] at hs
  refine Call_Name rfl (ok.glb f _ p hf hk σ W s _ _ R ?_ hd)
  refine PyProof.Rows.callWith_type1 (wpAny_mono (h W s pos R) ?_ fun _ _ x => x) (star_cons hs.1 _ _) (star_any hs.2 _ _)
  refine fun us s₁ zz => zz.elim fun W₁ σ₁ vs le₁ R₁ r₁ hP => ?_
  have fin : ∀ (a b : Int) (t u v : Tok) (tk : Nat) (n : Nat), Builtin.Range.rangeSize a b 1 = (n : Int) → Builtin.Range.small a b 1 = true → P (rngItems a n) (fun _ => True) σ₁ →
      wpAny fx.M fx.A (pyIter (.ref s₁.heap.objs.size)) (fun it s₂ => ∃ Io st ps W' σ' its need, it = .ref Io ∧ W.le W' ∧ Src fx W' its need Io st ∧ st 0 ps ∧ ExOk fx ps ∧ Rep (fx.pushL ps) σ' W' s₂ ∧ P its need σ') (PX fx W X)
        { s₁ with heap := s₁.heap.push { cls := .type "range", data := .fields #[.int a t, .int b u, .int 1 v] }, toks := tk } := by
    intro a b t u v tk n hn hsm hP
    have R₂ := R₁.keep (h' := s₁.heap.push { cls := .type "range", data := .fields #[.int a t, .int b u, .int 1 v] }) tk fun b o e => Heap.get?_push_of_some _ e
    refine wpAny_pyIter_range (IsRange.new _ a b 1 t u v) hsm ?_
    obtain ⟨R', ok'⟩ := R₂.exPush [((s₁.heap.push { cls := .type "range", data := .fields #[.int a t, .int b u, .int 1 v] }).objs.size, ({ cls := .type "range_iterator", data := .fields #[rawInt a, rawInt (Builtin.Range.rangeSize a b 1), rawInt 1] } : Obj))] (by simp) tk
      (fun b o e => Heap.get?_push_of_some _ e) (fun p hp => by rw [List.mem_singleton.mp hp]; exact Nat.le_refl _) (fun p hp => by rw [List.mem_singleton.mp hp]; exact Heap.get?_push_size _ rfl) (R₂.locals_at ok)
    exact ⟨_, _, _, W₁, σ₁, _, _, rfl, le₁, src_range (ok.ok.handled hq), by simp only [rngItSt, hn]; simp, ok', R', hP⟩
  rcases hP with ⟨m, rfl, hok, hP⟩ | ⟨m, m', rfl, hok, hP⟩
  · cases r₁ with
    | cons r r' =>
      cases r'; cases r
      refine call_range_1 (fin 0 m _ _ _ _ _ ?_ (small_one (by decide) (by decide) hok.1 hok.2) hP)
      rw [rangeSize_one]; split <;> omega
  · cases r₁ with
    | cons r r' =>
      cases r' with
      | cons r₂ r' =>
        cases r'; cases r; cases r₂
        refine call_range_2 (fin m m' _ _ _ _ _ ?_ (small_one hok.1.1 hok.1.2 hok.2.1 hok.2.2) hP)
        rw [rangeSize_one]; split <;> omega

theorem iter_val {iter : Expr} {P : List V → (St → Prop) → St → Prop} (h : EvE fx X iter σ (fun v σ₁ => SrvT fx v σ₁ P)) : IterT fx X iter σ P := by
  intro W s R
  refine wpAny_mono (h W s R) ?_ fun _ _ x => x
  refine fun u s₁ zz => zz.elim fun W₁ σ₁ v le₁ R₁ r₁ h₁ => ?_
  refine wpAny_mono (h₁ W₁ s₁ u (PX fx W X) R₁ r₁) ?_ fun _ _ x => x
  rintro it s₂ ⟨Io, st, ps, W', σ', its, need, a, b, c⟩
  exact ⟨Io, st, ps, W', σ', its, need, a, le₁.trans b, c⟩
end
end Mine

set_option autoImplicit false
namespace Mine
open PySem PySem.W PySem.Calls PySem.Spec PyProof.Rows

def retV : Fl → V
  | .ret v => v
  | _ => .none
def flowV : Flow → Value
  | .ret v => v
  | _ => .none
theorem retV_ok {W : Wd} {fl : Fl} {f : Flow} (h : FlR W fl f) : VR W (retV fl) (flowV f) := by
  cases h <;> first | exact .none | assumption

def bindV : List Str → List V → (Str → Option V) → Str → Option V
  | x :: xs, v :: vs, l => bindV xs vs (setN l x v)
  | _, _, l => l

/-- a call, as code -/
def RB (fx : Fx) (W : Wd) (X : XP) (Q : V → St → Prop) : Result → Shared → Prop := fun r s' => match r with | .ok (.ret v) => PV fx W Q v s' | .ok _ => False | .error e => PX fx W X e s'
def CallD (fx : Fx) (X : XP) (f : Value) (vs : List V) (σ : St) (Q : V → St → Prop) : Prop :=
  ∀ W s us, Rep fx σ W s → VRs W vs us → codeAny fx.M fx.A (.call f ⟨us, []⟩) (RB fx W X Q) s
/-- a def of the text, called -/
def CallOK (pg : Pg) (lev : Nat) (qt : Bool) (ns : List Int) (f : Addr) (vs : List V) (hp : List O) (X : Value → List O → Prop) (Q : V → List O → Prop) : Prop :=
  ∀ fx : Fx, FxAll fx → fx.pg = pg → lev ≤ fx.lev → fx.ns = ns → (qt = true → fx.qt = true) → ∀ loc, CallD fx (fun cls σ' => σ'.loc = loc ∧ X cls σ'.hp) (.ref f) vs ⟨loc, hp⟩ (fun v σ' => σ'.loc = loc ∧ Q v σ'.hp)

/-- where a def lies, and what it is -/
structure FnAt (pg : Pg) (f : Addr) (xs : List Str) (body : List Stmt) (scope : Scope) : Prop where
  data : ∃ name qual params dV kV doc pm an cdv ct oc od osl, pg.K.lookup f = some ⟨oc, od, .func (fnOf name qual params body scope dV kV doc pm an cdv ct), osl⟩ ∧ codeIn pg.K cdv qual = true ∧
    (∀ us : List Value, us.length = xs.length → bindArgs (fnOf name qual params body scope dV kV doc pm an cdv ct) ⟨us, []⟩ = pure (xs.zip us))
  kinds : ∀ x ∈ xs, scope.names.lookup x = some .local ∨ scope.names.lookup x = some .cell
  cells : ((cellsFrom 0 scope.names []).map (·.1)).Nodup
  hco : scope.isCoroutine = false
  hgen : scope.isGenerator = false
  hk : scope.kind = .function

theorem cf_some {x : Str} : ∀ (names : List (Str × NameKind)) (n : Nat) (acc : List (Str × Addr)), names.lookup x = some .cell ∨ (acc.lookup x).isSome = true → ((cellsFrom n names acc).lookup x).isSome = true
  | [], _, _, h => h.elim (fun e => by cases e) id
  | (y, k) :: r, n, acc, h => by
    unfold cellsFrom
    by_cases hk : (k == .cell) = true
    · rw [if_pos hk]
      refine cf_some r (n + 1) ((y, n) :: acc) ?_
      by_cases hy : (x == y) = true
      · exact .inr (by rw [List.lookup_cons, hy]; rfl)
      · refine h.imp (fun e => ?_) fun e => ?_
        · rw [List.lookup_cons] at e; simpa only [hy] using e
        · rw [List.lookup_cons]; simpa only [hy] using e
    · rw [if_neg hk]
      refine cf_some r n acc ?_
      by_cases hy : (x == y) = true
      · refine .inr (h.elim (fun e => ?_) id)
        rw [List.lookup_cons, hy] at e
        exact absurd (by rw [Option.some.inj e]; rfl) hk
      · refine h.imp (fun e => ?_) id
        rw [List.lookup_cons] at e; simpa only [hy] using e

theorem cf_addr : ∀ (names : List (Str × NameKind)) (n lo : Nat) (acc : List (Str × Addr)), lo ≤ n → (acc.map (·.2)).Nodup → (∀ p ∈ acc, lo ≤ p.2 ∧ p.2 < n) →
    ((cellsFrom n names acc).map (·.2)).Nodup ∧ ∀ p ∈ cellsFrom n names acc, lo ≤ p.2
  | [], _, _, _, _, h, h' => ⟨h, fun p hp => (h' p hp).1⟩
  | (y, k) :: r, n, lo, acc, hl, h, h' => by
    unfold cellsFrom
    split
    · refine cf_addr r (n + 1) lo ((y, n) :: acc) (Nat.le_succ_of_le hl) ?_ fun p hp => ?_
      · rw [List.map_cons, List.nodup_cons]
        refine ⟨fun hm => ?_, h⟩
        obtain ⟨p, hp, e⟩ := List.mem_map.mp hm
        have := (h' p hp).2
        exact absurd this (by rw [show p.2 = n from e]; exact Nat.lt_irrefl _)
      · rcases List.mem_cons.mp hp with rfl | hp
        · exact ⟨hl, Nat.lt_succ_self _⟩
        · exact ⟨(h' p hp).1, Nat.lt_succ_of_lt (h' p hp).2⟩
    · exact cf_addr r n lo acc hl h h'

theorem lookup_mem {α β : Type} [BEq α] [LawfulBEq α] : ∀ {l : List (α × β)} {x : α} {y : β}, l.lookup x = some y → (x, y) ∈ l
  | (a, b) :: r, x, y, h => by
    rw [List.lookup_cons] at h
    split at h
    · rename_i e
      cases h
      rw [eq_of_beq e]
      exact .head _
    · exact .tail _ (lookup_mem h)

theorem snd_inj {α β : Type} : ∀ {l : List (α × β)}, (l.map (·.2)).Nodup → ∀ {x y : α} {c : β}, (x, c) ∈ l → (y, c) ∈ l → x = y
  | [], _, _, _, _, h, _ => by cases h
  | (a, b) :: r, nd, x, y, c, h, h' => by
    rw [List.map_cons, List.nodup_cons] at nd
    rcases List.mem_cons.mp h with e | h
    · rcases List.mem_cons.mp h' with e' | h'
      · rw [← e'] at e; cases e; rfl
      · cases e; exact absurd (List.mem_map.mpr ⟨_, h', rfl⟩) nd.1
    · rcases List.mem_cons.mp h' with e' | h'
      · cases e'; exact absurd (List.mem_map.mpr ⟨_, h, rfl⟩) nd.1
      · exact snd_inj nd.2 h h'

theorem cellsAre_keys {cm : Str → Option Value} : ∀ {cs : List (Str × Addr)} {cells : List (Addr × Obj)}, CellsAre cm cs cells → cells.map (·.1) = cs.map (·.2)
  | _, _, .nil => rfl
  | _, _, .cons _ r => by simp [cellsAre_keys r]
theorem cellsAre_at {cm : Str → Option Value} : ∀ {cs : List (Str × Addr)} {cells : List (Addr × Obj)}, CellsAre cm cs cells → ∀ {x : Str} {c : Addr}, (x, c) ∈ cs → ∃ o, (c, o) ∈ cells ∧ o.data = .cell (cm x)
  | _, _, .nil => fun h => by cases h
  | _, _, .cons hd r => fun h => by
    rcases List.mem_cons.mp h with e | h
    · cases e; exact ⟨_, .head _, hd⟩
    · obtain ⟨o, h1, h2⟩ := cellsAre_at r h
      exact ⟨o, .tail _ h1, h2⟩

theorem bind_rel {W : Wd} {kindOf : Str → Option NameKind} : ∀ {xs : List Str} {vs : List V} {us : List Value}, VRs W vs us → (∀ x ∈ xs, kindOf x = some .local ∨ kindOf x = some .cell) → ∀ (l : Str → Option V) (m cm : Str → Option Value),
    (∀ y v, l y = some v → ∃ u, VR W v u ∧ ((kindOf y = some .local ∧ m y = some u) ∨ (kindOf y = some .cell ∧ cm y = some u))) →
    ∀ y v, bindV xs vs l y = some v → ∃ u, VR W v u ∧ ((kindOf y = some .local ∧ bindL kindOf (xs.zip us) m y = some u) ∨ (kindOf y = some .cell ∧ bindC kindOf (xs.zip us) cm y = some u))
  | [], _, _, _, _, l, m, cm, h, y, v, e => by
    rw [show bindV [] _ l = l by unfold bindV; rfl] at e
    simpa [bindL, bindC] using h y v e
  | x :: xs, _, _, .nil, _, l, m, cm, h, y, v, e => by
    rw [show bindV (x :: xs) [] l = l by unfold bindV; rfl] at e
    simpa [bindL, bindC] using h y v e
  | x :: xs, _, _, .cons (v := v₀) (vs := vs) (x := u₀) (xs := us) r rs, hk, l, m, cm, h, y, v, e => by
    rw [show bindV (x :: xs) (v₀ :: vs) l = bindV xs vs (setN l x v₀) by rfl] at e
    rw [List.zip_cons_cons]
    simp only [bindL, bindC]
    refine bind_rel rs (fun z hz => hk z (.tail _ hz)) (setN l x v₀) _ _ (fun z w hw => ?_) y v e
    unfold setN at hw
    split at hw
    · rename_i q
      subst q
      cases hw
      refine ⟨u₀, r, ?_⟩
      rcases hk z (.head _) with q | q
      · exact .inl ⟨q, by simp [q]⟩
      · exact .inr ⟨q, by simp [q]⟩
    · rename_i q
      obtain ⟨u, h1, h2⟩ := h z w hw
      refine ⟨u, h1, ?_⟩
      rcases h2 with ⟨a, b⟩ | ⟨a, b⟩
      · refine .inl ⟨a, ?_⟩
        split
        · simp [q, b]
        · exact b
      · refine .inr ⟨a, ?_⟩
        split
        · exact b
        · simp [q, b]

/-- a def is entered -/
theorem enterX {prog : Program} {w : World} {A₀ A : Around} {s : Shared} {base h₀ : Heap} {outer : List Env} {L : Addr} {m : Str → Option Value} {env : Env} {news : List (Addr × Obj)}
    {R : Result → Shared → Prop} {name qual : Str} {params : Arguments} {body : List Stmt} {scope : Scope} {dV kV doc pm cdv ct : Value} {an : Option Addr} {fo : Obj} {f : Addr} {args : Args} {binds : List (Str × Value)}
    (B : Below A₀ base outer h₀) (F : Fr h₀ L s.heap m) (N : News h₀ L s.heap news) (hlim : s.heap.NoLimit) (hA : A.frames = some (env :: outer)) (hf : env.frame = some L) (hke : env.scope.kind = .function)
    (ho : s.heap.get? f = some fo) (hd : fo.data = .func (fnX name qual params body scope [] dV kV doc pm an cdv ct)) (hcd : s.heap.CodeRec cdv qual) (hroom : A.depth < recursionLimit)
    (hbind : BindsTo s (fnX name qual params body scope [] dV kV doc pm an cdv ct) args binds)
    (hkind : ∀ n, ∀ x ∈ binds, scope.names.lookup x.1 = some .local ∨ (scope.names.lookup x.1 = some .cell ∧ ((cellsFrom n scope.names []).lookup x.1).isSome = true))
    (hnd : ((cellsFrom 0 scope.names []).map (·.1)).Nodup)
    (h : ∀ g L' h₁ tk cells, Fr h₀ L g m → Fr g L' h₁ (bindL (envOfC qual scope L' f cdv).kindOf binds fun _ => none) → News g L' h₁ (cells ++ news) →
      CellsAre (bindC (envOfC qual scope L' f cdv).kindOf binds fun _ => none) (cellsFrom (L' + 1) scope.names []) cells → Below A base (env :: outer) g → h₀.StaysIn g → (∀ p ∈ news, p.1 < L') →
      wpAny (model prog w) (A.deeper (envOfC qual scope L' f cdv)) (execs body (envOfC qual scope L' f cdv))
        (fun fl s' => R (.ok (.ret (match fl with | .ret v => v | _ => .none))) s')
        (fun e s' => wpAny (model prog w) (A.deeper (envOfC qual scope L' f cdv)) (leaving (envOfC qual scope L' f cdv) e) (fun _ s'' => R (.error e) s'') (fun e' s'' => R (.error e') s'') s')
        { s with heap := h₁, toks := tk })
    (hco : scope.isCoroutine = false) (hgen : scope.isGenerator = false) (hk : scope.kind = .function) : codeAny (model prog w) A (.call (.ref f) args) R s := by
  obtain ⟨FG, BG, st, _⟩ := groundX (R := R) B F N hA hf hke
  refine codeAny_call_function hroom ho hd hco hgen rfl hcd (hbind _ _ _ _ ?_)
  refine wpAny_newFunctionEnv_cells hk (hkind _) fun env' he s' x => ?_
  subst he
  refine ⟨hlim.keeps x.toInCall.keep, codeAny_func ?_⟩
  obtain ⟨h₁, tk, rfl, _⟩ := x.done
  have hk₁ := x.toInCall.keep
  obtain ⟨cells, NC, Y⟩ := Cl.news (h₀ := s.heap) (Nat.le_refl _) fun n c hm => ⟨x.cell n c (lookup_of_mem_nodup (cellsFrom_names scope.names 0 (s.heap.objs.size + 1) [] [] rfl ▸ hnd) hm), x.above n c hm⟩
  refine wpAny_mono (h _ s.heap.objs.size h₁ tk cells FG ⟨x.toInCall.ns, fun b o e => hk₁ b o (of_hideAll _ e), Nat.le_of_eq (hideAll_size _ _)⟩ (fun p hp => ?_) Y BG st (fun p hp => Heap.lt_size (N p hp).1)) (fun fl s' hl => hl) fun _ _ y => y
  rcases List.mem_append.mp hp with hp | hp
  · refine ⟨(NC p hp).1, (NC p hp).2.1, ?_⟩
    cases q : (hideAll s.heap (news.map (·.1))).get? p.1 with
    | none => rfl
    | some o => have := of_hideAll _ q; rw [(NC p hp).2.2] at this; cases this
  · exact ⟨hk₁ _ _ (N p hp).1, Nat.ne_of_lt (Heap.lt_size (N p hp).1), hideAll_none _ (List.mem_map_of_mem hp)⟩

/-- the caller's ground, behind a call -/
theorem backG {outer : List Env} {env : Env} {L L' : Addr} {gc g g' h' h : Heap} {m m' : Str → Option Value} {news' : List (Addr × Obj)} (hf : env.frame = some L) (F : Fr gc L h m) (D : KtsDicts (outer.filterMap (·.frame)) gc) (FG : Fr gc L g m)
    (T : KtsTurn ((env :: outer).filterMap (·.frame)) g g') (F' : Fr g' L' h' m') (N' : News g' L' h' news') :
    ∃ g₁, KtsTurn (outer.filterMap (·.frame)) gc g₁ ∧ Fr g₁ L h' m ∧ News g₁ L h' news' := by
  have nL : gc.get? L = none := ground_self F.above
  obtain ⟨oL, es, ep, hLg, hLd, hLk, hLf⟩ := FG.ns
  obtain ⟨sl, hs⟩ := T.up hLg
  obtain ⟨T₁, S₁⟩ := kts_turn_at (h := h') (fs := outer.filterMap (·.frame)) (g := gc) (fun b hb => let ⟨o, _, _, h1, _⟩ := D b hb; ⟨o, h1⟩)
    (fun b o e nm => F'.keep b o (T.other b o (FG.keep b o e) (fun q => by
      rcases mem_frames hf q with z | z
      · rw [z, nL] at e; cases e
      · exact nm z)))
    (fun b o e _ => by
      obtain ⟨sl', hs'⟩ := T.up (FG.keep b o e)
      exact ⟨sl', F'.keep _ _ hs'⟩)
  refine ⟨_, T₁, ⟨⟨_, es, ep, F'.keep _ _ hs, hLd, hLk, hLf⟩, S₁, by rw [T₁.size]; exact F.above⟩, fun p hp => ⟨(N' p hp).1, fun q => ?_, T₁.none_ _ ?_⟩⟩
  · have := (N' p hp).2.2; rw [q, hs] at this; cases this
  · cases q : gc.get? p.1 with
    | none => rfl
    | some o =>
      obtain ⟨sl', hs'⟩ := T.up (FG.keep _ _ q)
      have := (N' p hp).2.2
      rw [hs'] at this
      cases this

theorem callOK_of {pg : Pg} {f : Addr} {xs : List Str} {body : List Stmt} {scope : Scope} (D : FnAt pg f xs body scope) {lev : Nat} {qt : Bool} {ns : List Int} {vs : List V} {hp : List O} {X : Value → List O → Prop} {Q : V → List O → Prop} (hl : vs.length = xs.length)
    (h : ∀ fx' : Fx, FxAll fx' → fx'.pg = pg → fx'.ns = ns → fx'.lev = lev → (qt = true → fx'.qt = true) → fx'.env.scope = scope → fx'.env.locals = fx'.L → EvSs fx' (fun cls σ' => X cls σ'.hp) body ⟨bindV xs vs (fun _ => none), hp⟩ (fun fl σ' => Q (retV fl) σ'.hp)) :
    CallOK pg (lev + 1) qt ns f vs hp X Q := by
  rintro fx all rfl hlev hns hqt loc W s us R r
  have stB := all.stays R
  refine R.elim fun er gc m news G F N C => ?_
  obtain ⟨BL, DC⟩ := all.ground G
  obtain ⟨name, qual, params, dV, kV, doc, pm, an, cdv, ct, oc, od, osl, ho, hcd, hbind⟩ := D.data
  have X' := all.part.keeps stB
  have hlen : us.length = xs.length := r.length ▸ hl
  refine enterX (news := news) (name := name) (qual := qual) (params := params) (body := body) (scope := scope) BL F N (all.top.nolimit.keeps stB) all.frs all.ffr all.fkd (X' _ _ ho) rfl (codeRec_of X' hcd) (by have := all.depth; omega)
    (BindsTo.of_eq (hbind us hlen)) ?_ D.cells ?_ D.hco D.hgen D.hk
  · intro n x hx
    have hx' : x.1 ∈ xs := (List.of_mem_zip (a := x.1) (b := x.2) hx).1
    rcases D.kinds x.1 hx' with q | q
    · exact .inl q
    · exact .inr ⟨q, cf_some _ _ _ (.inl q)⟩
  intro g L' h₁ tk cells FG F' N' Y B' st lt
  have keysC := cellsAre_keys Y
  have cfa := cf_addr scope.names (L' + 1) (L' + 1) [] (Nat.le_refl _) (by simp) (fun p hp => by cases hp)
  let cf : Addr × Obj → Bool := fun p => fx.env.cells.any fun q => decide (fx.env.cells.lookup q.1 = some p.1)
  let fx' : Fx := { pg := fx.pg, A := fx.A.deeper (envOfC qual scope L' f cdv), env := envOfC qual scope L' f cdv, fenv := envOfC qual scope L' f cdv, outer := fx.fenv :: fx.outer, A₀ := fx.A, base := fx.base, h₀ := g, L := L',
                    ex := fx.ex ++ news.filter cf, s₀ := fx.s₀, sc := fx.sc, ns := fx.ns, lev := lev, mfix := none, qt := fx.qt }
  have exN : ∀ p ∈ fx'.ex, p ∈ news := fun p hp => (List.mem_append.mp hp).elim (C.exs p) fun q => (List.mem_filter.mp q).1
  have cellIn : ∀ x c o, fx.env.cells.lookup x = some c → (c, o) ∈ news → (c, o) ∈ fx'.ex := fun x c o h1 h2 =>
    List.mem_append_right _ (List.mem_filter.mpr ⟨h2, List.any_eq_true.mpr ⟨_, lookup_mem h1, decide_eq_true h1⟩⟩)
  have exAl : ∀ p ∈ fx'.ex, p.1 ∉ W.al := fun p hp => (List.mem_append.mp hp).elim (C.exd p) fun q => by
    obtain ⟨e, _, e1⟩ := List.any_eq_true.mp (List.mem_filter.mp q).2
    exact (C.cel _ _ (of_decide_eq_true e1)).1
  have exTp : ∀ p ∈ fx'.ex, ∀ t ∈ W.tp, p.1 ≠ t.1 := fun p hp t ht => (List.mem_append.mp hp).elim (fun q => C.ext p q t ht) fun q z => by
    obtain ⟨e, _, e1⟩ := List.any_eq_true.mp (List.mem_filter.mp q).2
    obtain ⟨_, o, v, h2, h3⟩ := C.cel _ _ (of_decide_eq_true e1)
    have h4 := C.tps t ht
    rw [← z] at h4
    rw [key_inj C.nd h2 h4] at h3
    cases h3
  have cellAt : ∀ x c, (cellsFrom (L' + 1) scope.names []).lookup x = some c → ∃ o, (c, o) ∈ cells ∧ o.data = .cell (bindC (envOfC qual scope L' f cdv).kindOf (xs.zip us) (fun _ => none) x) := fun x c h => cellsAre_at Y (lookup_mem h)
  have newC : ∀ p ∈ cells, ∀ q ∈ news, q.1 < p.1 := fun p hp q hq => by
    have h1 : p.1 ∈ (cellsFrom (L' + 1) scope.names []).map (·.2) := keysC ▸ List.mem_map_of_mem (f := (·.1)) hp
    obtain ⟨e, he, e1⟩ := List.mem_map.mp h1
    have h2 := cfa.2 e he
    have h3 := lt q hq
    rw [← e1]
    exact Nat.lt_of_lt_of_le h3 (Nat.le_of_succ_le h2)
  have all' : FxAll fx' := {
    ok := ⟨D.hk, all.ok.handled⟩
    locs := .inl rfl
    cex := fun _ x c h p hp q => by
      obtain ⟨o, ho, _⟩ := cellAt x c h
      exact absurd (newC _ ho p (exN p hp)) (by rw [q]; exact Nat.lt_irrefl _)
    cinj := fun x y c h h' => snd_inj cfa.1 (lookup_mem h) (lookup_mem h')
    cdef := fun x h q => by
      have := cf_some (x := x) scope.names (L' + 1) [] (.inl h)
      rw [show (cellsFrom (L' + 1) scope.names []).lookup x = none from q] at this
      cases this
    scr := all.scr
    egl := rfl
    ebu := rfl
    top := all.top
    part := all.part
    below := B'
    dicts := fun b hb => by
      rcases mem_frames all.ffr hb with rfl | z
      · obtain ⟨oL, es, ep, hL, hd, _⟩ := FG.ns
        exact ⟨oL, es, ep, hL, hd⟩
      · obtain ⟨o, es, n, h1, h2⟩ := DC b z
        exact ⟨o, es, n, FG.keep _ _ h1, h2⟩
    frs := by show (fx.A.frames.map _) = _; rw [all.frs]; rfl
    ffr := rfl
    fkd := D.hk
    depth := by show fx.A.depth + 1 + lev < recursionLimit; have := all.depth; omega
    room := by show fx.A.units + 3 + 8 * lev + 100 < cLine; have := all.room; omega
    mfn := fun _ => rfl
    envf := fun _ => rfl }
  have R' : Rep fx' ⟨bindV xs vs (fun _ => none), hp⟩ W { s with heap := h₁, toks := tk } := by
    refine ⟨rest_with er _ _, _, _, cells ++ news, .refl, F', N', ?_, fun p hp => List.mem_append_right _ (exN p hp), exAl, C.aln, C.len, fun i o h => ?_, fun t ht => List.mem_append_right _ (C.tps t ht), fun x v h => ?_, fun x c h => ?_, C.scc, fun _ q => (by cases q), fun p hp t ht => ?_⟩
    · rw [List.map_append, keysC]
      refine List.nodup_append.mpr ⟨cfa.1, C.nd, fun a ha b hb q => ?_⟩
      rw [← keysC] at ha
      obtain ⟨p, hp, rfl⟩ := List.mem_map.mp ha
      obtain ⟨p', hp', rfl⟩ := List.mem_map.mp hb
      exact absurd (newC p hp p' hp') (by rw [q]; exact Nat.lt_irrefl _)
    · obtain ⟨a, ob, h1, h2, h3⟩ := C.obs i o h
      exact ⟨a, ob, h1, List.mem_append_right _ h2, h3⟩
    · obtain ⟨u, h1, h2⟩ := bind_rel (kindOf := (envOfC qual scope L' f cdv).kindOf) r D.kinds (fun _ => none) (fun _ => none) (fun _ => none) (fun y v h => by cases h) x v h
      refine ⟨u, h1, ?_⟩
      rcases h2 with ⟨k1, k2⟩ | ⟨k1, k2⟩
      · exact .loc k1 rfl k2
      · have hs := cf_some (x := x) scope.names (L' + 1) [] (.inl k1)
        obtain ⟨c, hc⟩ := Option.isSome_iff_exists.mp hs
        obtain ⟨o, ho, hd⟩ := cellAt x c hc
        exact .cell (.inl k1) hc (List.mem_append_left _ ho) (by rw [hd, k2])
    · obtain ⟨o, ho, hd⟩ := cellAt x c h
      refine ⟨fun hm => ?_, o, _, List.mem_append_left _ ho, hd⟩
      obtain ⟨o', ho'⟩ := C.al_lt hm
      exact absurd (newC _ ho _ ho') (Nat.lt_irrefl _)
    · exact exTp p hp t ht
  have coreBack : ∀ {σ' : St} {W' : Wd} {m' : Str → Option Value} {news' : List (Addr × Obj)}, W.le W' → Core fx' σ' W' m' news' → Core fx ⟨loc, σ'.hp⟩ W' m news' := by
    intro σ' W' m' news' le' C''
    refine ⟨C''.nd, fun p hp => C''.exs p (List.mem_append_left _ hp), fun p hp => C''.exd p (List.mem_append_left _ hp), C''.aln, C''.len, C''.obs, C''.tps, fun x v h => ?_, fun x c h => ?_, C''.scc, fun m₀ q => C.mfx m₀ q, fun p hp t ht => C''.ext p (List.mem_append_left _ hp) t ht⟩
    · obtain ⟨u, h1, h2⟩ := C.loc x v h
      refine ⟨u, h1.mono le', ?_⟩
      cases h2 with
      | loc a b c => exact .loc a b c
      | comp a b c => exact .comp a b c
      | cell a b c d => exact .cell a b (C''.exs _ (cellIn _ _ _ b c)) d
    · obtain ⟨_, o, v, h2, h3⟩ := C.cel x c h
      have hin := cellIn x c o h h2
      exact ⟨C''.exd _ hin, o, v, C''.exs _ hin, h3⟩
  refine wpAny_mono (h fx' all' rfl hns rfl hqt rfl rfl W _ R') ?_ ?_
  · refine fun fl s' zz => zz.elim fun W' σ' fl' le' R'' r'' q'' => ?_
    refine R''.elim fun er' g' m' news' G' F'' N'' C'' => ?_
    obtain ⟨g₁, T₁, F₁, N₁⟩ := backG all.ffr F DC FG G' F'' N''
    have hv := retV_ok r''
    exact ⟨W', ⟨loc, σ'.hp⟩, retV fl', le', ⟨er', g₁, m, news', G.trans T₁, F₁, N₁, coreBack le' C''⟩, (by cases fl <;> exact hv), rfl, q''⟩
  · rintro u s' ⟨e, cls, k, W', σ', rfl, le', ⟨er', g', m', news', B, c, f⟩, hX⟩
    refine leaveFly (L₁ := fx.L) all'.frs rfl f fun h'' f'' u'' => ?_
    have c' := c.up rfl f''.stays.1 u''
    obtain ⟨oL, es, ep, hLg, hLd, hLk, hLf⟩ := FG.ns
    obtain ⟨sl, hs⟩ := c.turn.up hLg
    obtain ⟨sl', hs'⟩ := c'.fr _ _ hs
    refine ⟨e, cls, .fly, W', ⟨loc, σ'.hp⟩, rfl, le', ⟨rest_heap er' _, gc, m, news', B, ⟨G, DC, F.above, ⟨_, es, ep, hs', hLd, hLk, hLf⟩, fun b o q nm => ?_, fun b o q => ?_, fun p hp => ⟨(c.nw p hp).1, fun q => ?_, ?_⟩, coreBack le' c.core, c.base⟩, f''⟩, rfl, hX⟩
    · have q' := c.turn.other b o (FG.keep b o q) nm
      refine c.gB b o q' fun hm => ?_
      rcases mem_frames (show fx'.fenv.frame = some L' from rfl) hm with z | z
      · rw [z, ground_self c.size] at q'
        cases q'
      · exact nm z
    · obtain ⟨s1, q1⟩ := c.turn.up (FG.keep b o q)
      obtain ⟨s2, q2⟩ := c'.fr _ _ q1
      exact ⟨s2, q2⟩
    · have := (c.nw p hp).2.2
      rw [q, hs] at this
      cases this
    · cases q : gc.get? p.1 with
      | none => rfl
      | some o =>
        obtain ⟨s1, q1⟩ := c.turn.up (FG.keep _ _ q)
        have := (c.nw p hp).2.2
        rw [q1] at this
        cases this

end Mine

set_option autoImplicit false
namespace Mine
open PySem PySem.W PySem.Calls PySem.Spec PyProof.Rows

theorem pushL_pushL (fx : Fx) (qs ps : List (Addr × Obj)) : (fx.pushL qs).pushL ps = fx.pushL (ps ++ qs) := by
  simp only [Fx.pushL, List.append_assoc]
theorem ExOk.join {fx : Fx} {qs ps : List (Addr × Obj)} (a : ExOk fx qs) (b : ExOk (fx.pushL qs) ps) : ExOk fx (ps ++ qs) where
  nd := by
    rw [List.map_append]
    refine List.nodup_append.mpr ⟨b.nd, a.nd, fun x hx y hy e => ?_⟩
    obtain ⟨p, hp, rfl⟩ := List.mem_map.mp hy
    exact b.dis p (List.mem_append_left _ hp) (e ▸ hx)
  dis := fun p hp q => by
    rw [List.map_append] at q
    exact (List.mem_append.mp q).elim (b.dis p (List.mem_append_right _ hp)) (a.dis p hp)
  cel := fun x c h q => by
    rw [List.map_append] at q
    exact (List.mem_append.mp q).elim (b.cel x c h) (a.cel x c h)
  loc := fun q => by
    rw [List.map_append] at q
    exact (List.mem_append.mp q).elim b.loc a.loc
theorem ExOk.keys {fx : Fx} {ps ps' : List (Addr × Obj)} (a : ExOk fx ps) (h : ps'.map (·.1) = ps.map (·.1)) : ExOk fx ps' := ⟨h ▸ a.nd, h ▸ a.dis, h ▸ a.cel, h ▸ a.loc⟩
theorem ExOk.left {fx : Fx} {qs qs' ps : List (Addr × Obj)} (h : qs'.map (·.1) = qs.map (·.1)) (b : ExOk (fx.pushL qs) ps) : ExOk (fx.pushL qs') ps where
  nd := b.nd
  dis := fun p hp q => by
    rcases List.mem_append.mp hp with hp | hp
    · have : p.1 ∈ qs.map (·.1) := h ▸ List.mem_map_of_mem (f := (·.1)) hp
      obtain ⟨o, ho⟩ := mem_keys this
      exact b.dis _ (List.mem_append_left _ ho) q
    · exact b.dis p (List.mem_append_right _ hp) q
  cel := b.cel
  loc := b.loc

def NsObj (o : Obj) : Prop := ∃ es ep, o.data = .dict es ep ∧ StrKeys es
/-- the names that a comprehension has bound -/
def CLR (W : Wd) (l : Str → Option V) (o : Obj) : Prop := ∀ y v, l y = some v → ∃ u, VR W v u ∧ NsSays o y u
/-- a comprehension's scope within its frame -/
structure CompOk (env : Env) (scope : Scope) : Prop where
  kind : scope.kind = .function
  nocell : ∀ y ∈ scope.names, y.2 ≠ .cell
  names : ∀ y ∈ scope.names, y.2 = .local → scope.names.lookup y.1 = some .local
  frees : ∀ y ∈ scope.names, y.2 = .free → scope.names.lookup y.1 = some .free
  free : ∀ n, scope.names.lookup n = some .free → env.kindOf n = some .cell

def clOf (env : Env) : List (Str × NameKind) → List (Str × Addr) → List (Str × Addr)
  | [], acc => acc
  | (n, k) :: r, acc => if k == .free then clOf env r ((n, (env.cells.lookup n).getD 0) :: acc) else clOf env r acc

theorem clOf_prop {env : Env} : ∀ (names : List (Str × NameKind)) (acc : List (Str × Addr)), (∀ n, (n, NameKind.free) ∈ names → env.cells.lookup n ≠ none) → (∀ p ∈ acc, env.cells.lookup p.1 = some p.2) →
    ∀ p ∈ clOf env names acc, env.cells.lookup p.1 = some p.2
  | [], _, _, h => h
  | (n, k) :: r, acc, hn, h => by
    unfold clOf
    split
    · rename_i hk
      have hk' : k = .free := by simpa using hk
      subst hk'
      refine clOf_prop r _ (fun m hm => hn m (.tail _ hm)) fun p hp => ?_
      rcases List.mem_cons.mp hp with rfl | hp
      · have := hn n (.head _)
        cases q : env.cells.lookup n with
        | none => exact absurd q this
        | some c => simp
      · exact h p hp
    · exact clOf_prop r acc (fun m hm => hn m (.tail _ hm)) h

theorem clOf_some {env : Env} {x : Str} : ∀ (names : List (Str × NameKind)) (acc : List (Str × Addr)), (x, NameKind.free) ∈ names ∨ (acc.lookup x).isSome = true → ((clOf env names acc).lookup x).isSome = true
  | [], _, h => h.elim (fun e => by cases e) id
  | (n, k) :: r, acc, h => by
    unfold clOf
    split
    · rename_i hk
      refine clOf_some r _ ?_
      by_cases hy : (x == n) = true
      · exact .inr (by rw [List.lookup_cons, hy]; rfl)
      · refine h.imp (fun e => ?_) fun e => ?_
        · rcases List.mem_cons.mp e with e | e
          · cases e; simp at hy
          · exact e
        · rw [List.lookup_cons]; simpa only [hy] using e
    · rename_i hk
      refine clOf_some r acc (h.imp (fun e => ?_) id)
      rcases List.mem_cons.mp e with e | e
      · cases e; exact absurd rfl hk
      · exact e

theorem closure_ok {env : Env} {scope : Scope} (h : ∀ n, (n, NameKind.free) ∈ scope.names → env.cells.lookup n ≠ none) : closureFor scope env = pure (clOf env scope.names []) := by
  unfold closureFor
  have key : ∀ (names : List (Str × NameKind)) (acc : List (Str × Addr)), (∀ n, (n, NameKind.free) ∈ names → env.cells.lookup n ≠ none) →
      (forIn names acc fun (x : Str × NameKind) (r : List (Str × Addr)) => if (x.2 == NameKind.free) = true then (do let c ← cellOf env x.1; pure (ForInStep.yield ((x.1, c) :: r)) : Sem (ForInStep (List (Str × Addr)))) else pure (ForInStep.yield r)) = (pure (clOf env names acc) : Sem _) := by
    intro names
    induction names with
    | nil => intro acc _; rfl
    | cons p r ih =>
      obtain ⟨n, k⟩ := p
      intro acc hn
      rw [List.forIn_cons]
      unfold clOf
      by_cases hk : (k == NameKind.free) = true
      · have hk' : k = .free := by simpa using hk
        subst hk'
        have hc := hn n (.head _)
        cases q : env.cells.lookup n with
        | none => exact absurd q hc
        | some c =>
          have e1 : cellOf env n = pure c := by unfold cellOf; rw [q]
          simp only [e1, if_true, pure_bind, beq_self_eq_true, Option.getD_some]
          exact ih _ fun m hm => hn m (.tail _ hm)
      · simp only [hk, if_false, pure_bind, Bool.false_eq_true]
        exact ih _ fun m hm => hn m (.tail _ hm)
  have := key scope.names [] h
  simpa using this

def compLoc (scope : Scope) (loc : Str → Option V) : Str → Option V := fun y => if scope.names.lookup y = some .free then loc y else none

theorem relabel_lookup (scope : Scope) (env : Env) (y : Str) : (relabel scope env).names.lookup y = (scope.names.lookup y).map fun k => if (k == .free && env.scope.kind == .function && env.kindOf y == some .cell) then .cell else k := by
  unfold relabel
  dsimp only
  induction scope.names with
  | nil => rfl
  | cons p r ih =>
    obtain ⟨n, k⟩ := p
    simp only [List.map_cons]
    by_cases hy : (y == n) = true
    · have : y = n := by simpa using hy
      subst this
      by_cases hc : (k == NameKind.free && env.scope.kind == .function && env.kindOf y == some .cell) = true
      · rw [if_pos hc]; simp only [List.lookup_cons, beq_self_eq_true, Option.map_some, hc, if_true]
      · rw [if_neg hc]; simp only [List.lookup_cons, beq_self_eq_true, Option.map_some, hc]; simp
    · have hy' : (y == n) = false := by simpa using hy
      by_cases hc : (k == NameKind.free && env.scope.kind == .function && env.kindOf n == some .cell) = true
      · rw [if_pos hc]; simp only [List.lookup_cons, hy']; exact ih
      · rw [if_neg hc]; simp only [List.lookup_cons, hy']; exact ih

section
variable {fx : Fx} {X : XP} {σ : St} {W : Wd} {s : Shared}

/-- a comprehension's own frame -/
abbrev fxC (fx : Fx) (scope : Scope) (C : Addr) (ex : List (Addr × Obj)) (m : Str → Option Value) : Fx :=
  { fx with env := compEnvC scope (clOf fx.env scope.names []) C fx.env, ex := ex, mfix := some m }

theorem cells_in {env : Env} {scope : Scope} (h : ∀ n, (n, NameKind.free) ∈ scope.names → env.cells.lookup n ≠ none) {x : Str} {c : Addr} (e : (clOf env scope.names []).lookup x = some c) : env.cells.lookup x = some c :=
  clOf_prop scope.names [] h (fun p hp => by cases hp) _ (lookup_mem e)

theorem fxC_all (all : FxAll fx) {scope : Scope} (co : CompOk fx.env scope) {C : Addr} {ex : List (Addr × Obj)} {m : Str → Option Value} {oC : Obj} (hin : (C, oC) ∈ ex) (hCL : C ≠ fx.L) : FxAll (fxC fx scope C ex m) := by
  have hfree : ∀ n, (n, NameKind.free) ∈ scope.names → fx.env.cells.lookup n ≠ none := fun n hn => all.cdef n (co.free n (co.frees _ hn rfl))
  exact {
    ok := ⟨co.kind, all.ok.handled⟩
    locs := .inr ⟨oC, hin⟩
    cex := fun q => absurd q hCL
    cinj := fun x y c h h' => all.cinj x y c (cells_in hfree h) (cells_in hfree h')
    cdef := fun x h q => by
      have h' : (relabel scope fx.env).names.lookup x = some .cell := h
      rw [relabel_lookup] at h'
      cases e : scope.names.lookup x with
      | none => rw [e] at h'; cases h'
      | some k =>
        rw [e, Option.map_some] at h'
        have hm := lookup_mem e
        have hs := clOf_some (env := fx.env) (x := x) scope.names [] (.inl (by
          split at h'
          · rename_i hc
            have : k = .free := by simp at hc; exact hc.1.1
            rw [← this]; exact hm
          · exact absurd (Option.some.inj h') (co.nocell _ hm)))
        rw [show (clOf fx.env scope.names []).lookup x = none from q] at hs
        cases hs
    scr := all.scr
    egl := all.egl
    ebu := all.ebu
    top := all.top
    part := all.part
    below := all.below
    dicts := all.dicts
    frs := all.frs
    ffr := all.ffr
    fkd := all.fkd
    depth := all.depth
    room := all.room
    mfn := fun q => absurd q hCL
    envf := fun q => absurd q hCL }

/-- into a comprehension's frame and back -/
theorem toC (all : FxAll fx) {scope : Scope} (co : CompOk fx.env scope) {C : Addr} {oC : Obj} {qs : List (Addr × Obj)} (hin : (C, oC) ∈ qs) (R : Rep (fx.pushL qs) σ W s) {l : Str → Option V} (hl : CLR W l oC)
    (hloc : ∀ y v, l y = some v → scope.names.lookup y = some .local) {l' : Str → Option V} (hl' : ∀ y v, l' y = some v → l y = some v ∨ compLoc scope σ.loc y = some v) :
    ∃ fc : Fx, FxAll fc ∧ fc.pg = fx.pg ∧ fc.ns = fx.ns ∧ fc.lev = fx.lev ∧ fc.env = compEnvC scope (clOf fx.env scope.names []) C fx.env ∧ fc.A = fx.A ∧ fc.qt = fx.qt ∧ Rep fc ⟨l', σ.hp⟩ W s ∧
      (∀ σ' W' s', W.le W' → Rep fc σ' W' s' → Rep (fx.pushL qs) ⟨σ.loc, σ'.hp⟩ W' s') := by
  have hfree : ∀ n, (n, NameKind.free) ∈ scope.names → fx.env.cells.lookup n ≠ none := fun n hn => all.cdef n (co.free n (co.frees _ hn rfl))
  refine R.elim fun e g m news G F N Co => ?_
  have hCL : C ≠ fx.L := (N _ (Co.exs _ (List.mem_append_left _ hin))).2.1
  let cf : Addr × Obj → Bool := fun p => fx.env.cells.any fun q => decide (fx.env.cells.lookup q.1 = some p.1)
  have cellIn : ∀ x c o, fx.env.cells.lookup x = some c → (c, o) ∈ news → (c, o) ∈ news.filter cf := fun x c o h1 h2 =>
    List.mem_filter.mpr ⟨h2, List.any_eq_true.mpr ⟨_, lookup_mem h1, decide_eq_true h1⟩⟩
  refine ⟨fxC fx scope C (qs ++ fx.ex ++ news.filter cf) m, fxC_all all co (oC := oC) (List.mem_append_left _ (List.mem_append_left _ hin)) hCL, rfl, rfl, rfl, rfl, rfl, rfl, ?_, ?_⟩
  · refine ⟨e, g, m, news, G, F, N, Co.nd, fun p hp => ?_, fun p hp => ?_, Co.aln, Co.len, Co.obs, Co.tps, fun x v h => ?_, fun x c h => ?_, Co.scc, fun m₀ q => Option.some.inj q, fun p hp t ht => ?_⟩
    · exact (List.mem_append.mp hp).elim (Co.exs p) fun q => (List.mem_filter.mp q).1
    · refine (List.mem_append.mp hp).elim (Co.exd p) fun q => ?_
      obtain ⟨e, _, e1⟩ := List.any_eq_true.mp (List.mem_filter.mp q).2
      exact (Co.cel _ _ (of_decide_eq_true e1)).1
    · rcases hl' x v h with h | h
      · obtain ⟨u, h1, h2⟩ := hl x v h
        exact ⟨u, h1, .comp (lookup_relabel_local (hloc x v h)) (List.mem_append_left _ (List.mem_append_left _ hin)) h2⟩
      · unfold compLoc at h
        split at h
        · rename_i hf
          obtain ⟨u, h1, h2⟩ := Co.loc x v h
          refine ⟨u, h1, ?_⟩
          have hc := co.free x hf
          cases h2 with
          | loc a b c => rw [show fx.env.kindOf x = some .local from a] at hc; cases hc
          | comp a b c => rw [show fx.env.kindOf x = some .local from a] at hc; cases hc
          | @cell c o a b d f =>
            have hs := clOf_some (env := fx.env) (x := x) scope.names [] (.inl (lookup_mem hf))
            obtain ⟨c', hc'⟩ := Option.isSome_iff_exists.mp hs
            have := cells_in hfree hc'
            rw [show fx.env.cells.lookup x = some c from b] at this
            cases this
            refine .cell (.inl ?_) hc' d f
            show (relabel scope fx.env).names.lookup x = some .cell
            rw [relabel_lookup, hf]
            simp [all.ok.kind, hc]
        · cases h
    · exact Co.cel x c (cells_in hfree h)
    · refine (List.mem_append.mp hp).elim (fun q => Co.ext p q t ht) fun q z => ?_
      obtain ⟨e, _, e1⟩ := List.any_eq_true.mp (List.mem_filter.mp q).2
      obtain ⟨_, o, v, h2, h3⟩ := Co.cel _ _ (of_decide_eq_true e1)
      have h4 := Co.tps t ht
      rw [← z] at h4
      rw [key_inj Co.nd h2 h4] at h3
      cases h3
  · intro σ' W' s' le R'
    refine R'.elim fun e' g' m' news' G' F' N' Co' => ?_
    obtain rfl : m' = m := Co'.mfx m rfl
    refine ⟨e', g', m', news', G', F', N', Co'.nd, fun p hp => Co'.exs p (List.mem_append_left _ hp), fun p hp => Co'.exd p (List.mem_append_left _ hp), Co'.aln, Co'.len, Co'.obs, Co'.tps, fun x v h => ?_, fun x c h => ?_, Co'.scc, Co.mfx, fun p hp t ht => Co'.ext p (List.mem_append_left _ hp) t ht⟩
    · obtain ⟨u, h1, h2⟩ := Co.loc x v h
      refine ⟨u, h1.mono le, ?_⟩
      cases h2 with
      | loc a b c => exact .loc a b c
      | comp a b c => exact .comp a b c
      | cell a b c d => exact .cell a b (Co'.exs _ (List.mem_append_right _ (cellIn _ _ _ b c))) d
    · obtain ⟨_, o, v, h2, h3⟩ := Co.cel x c h
      have hin' : (c, o) ∈ qs ++ fx.ex ++ news.filter cf := List.mem_append_right _ (cellIn x c o h h2)
      exact ⟨Co'.exd _ hin', o, v, Co'.exs _ hin', h3⟩

/-- a comprehension's variable is stored -/
theorem storeC {scope : Scope} (hkd : scope.kind = .function) {C : Addr} {cl : List (Str × Addr)} {oC : Obj} {ps : List (Addr × Obj)} (hps : ∀ p ∈ ps, ∀ xs, p.2 ≠ tupObj xs) (ok : ExOk fx (ps ++ [(C, oC)])) (R : Rep (fx.pushL (ps ++ [(C, oC)])) σ W s) (ho : NsObj oC)
    {l : Str → Option V} (hl : CLR W l oC) {x : Str} (hx : scope.names.lookup x = some .local) {v : V} {u : Value} (r : VR W v u) {Q : Unit → Shared → Prop} {E : Value → Shared → Prop}
    (k : ∀ oC' h' tk, NsObj oC' → CLR W (setN l x v) oC' → Rep (fx.pushL (ps ++ [(C, oC')])) σ W { s with heap := h', toks := tk } → Q () { s with heap := h', toks := tk }) :
    wpAny fx.M fx.A (storeName (compEnvC scope cl C fx.env) x u) Q E s := by
  obtain ⟨es, ep, hd, hk⟩ := ho
  have hg := R.exPop (p := (C, oC)) (List.mem_append_right _ (List.mem_singleton.mpr rfl))
  refine wpAny_storeName_local (m := nsFind es) (lookup_relabel_local hx) ⟨oC, es, ep, hg, hd, hk, fun _ => rfl⟩ (fun h' hn hs => ?_) (by show (scope.kind == .class || (scope.kind == .module && _)) = false; rw [hkd]; rfl)
  obtain ⟨o', es', ep', hg', hd', hk', hf'⟩ := hn
  refine k o' h' (s.toks + 1) ⟨es', ep', hd', hk'⟩ (fun y w h => ?_) ?_
  · unfold setN at h
    split at h
    · rename_i q
      subst q
      cases h
      exact ⟨u, r, es', ep', hd', hk', by rw [hf']; simp⟩
    · rename_i q
      obtain ⟨u', h1, es₂, ep₂, h2, h3, h4⟩ := hl y w h
      rw [hd] at h2
      cases h2
      exact ⟨u', h1, es', ep', hd', hk', by rw [hf']; simp [q, h4]⟩
  · refine R.exSwap ok (ps ++ [(C, o')]) (by simp) _ (fun b o hb e => (hs.2 b fun q => hb ?_).trans e) fun p hp => ?_
    · rw [q]
      exact List.mem_map.mpr ⟨(C, oC), List.mem_append_right _ (List.mem_singleton.mpr rfl), rfl⟩
    · rcases List.mem_append.mp hp with hp | hp
      · have := R.exPop (p := p) (List.mem_append_left _ hp)
        refine (hs.2 p.1 fun q => ?_).trans this
        have nd := ok.nd
        rw [List.map_append] at nd
        exact (List.nodup_append.mp nd).2.2 p.1 (List.mem_map_of_mem (f := (·.1)) hp) C (by simp) q
      · rw [List.mem_singleton.mp hp]; exact hg'

def nmV (p : Expr × V) : Option (Str × V) := match p.1 with | .Name x _ => some (x, p.2) | _ => none
/-- the targets that a comprehension binds: a name, or a tuple of names -/
def tgtV (t : Expr) (v : V) : Option (List (Str × V)) :=
  match t with
  | .Name x _ => some [(x, v)]
  | .Tuple es _ _ => match v with
    | .tup vs => if es.length = vs.length then (es.zip vs).mapM nmV
      else none
    | _ => none
  | _ => none

def setAll (l : Str → Option V) : List (Str × V) → Str → Option V
  | [] => l
  | (x, v) :: r => setAll (setN l x v) r

theorem asgInOrderC {scope : Scope} (hkd : scope.kind = .function) {C : Addr} {cl : List (Str × Addr)} {ps : List (Addr × Obj)} (hps : ∀ p ∈ ps, ∀ xs, p.2 ≠ tupObj xs) :
    ∀ (es : List Expr) (vs : List V) (bs : List (Str × V)), es.length = vs.length → ((es.zip vs).mapM nmV) = some bs → (∀ b ∈ bs, scope.names.lookup b.1 = some .local) →
    ∀ (us : List Value) (oC : Obj) (W : Wd) (s : Shared) (l : Str → Option V) (Q : Unit → Shared → Prop) (E : Value → Shared → Prop), VRs W vs us → ExOk fx (ps ++ [(C, oC)]) → Rep (fx.pushL (ps ++ [(C, oC)])) σ W s → NsObj oC → CLR W l oC →
    (∀ oC' h' tk, NsObj oC' → CLR W (setAll l bs) oC' → Rep (fx.pushL (ps ++ [(C, oC')])) σ W { s with heap := h', toks := tk } → Q () { s with heap := h', toks := tk }) →
    wpAny fx.M fx.A (assignInOrder ((assignEach es (compEnvC scope cl C fx.env)).map (·.2)) us) Q E s
  | [], vs, bs, hlen, hb, hn, us, oC, W, s, l, Q, E, r, ok, R, ho, hl, k => by
    simp at hb
    subst hb
    exact assignInOrder_nil (k oC s.heap s.toks ho hl R)
  | e :: es, [], bs, hlen, hb, hn, us, oC, W, s, l, Q, E, r, ok, R, ho, hl, k => by simp at hlen
  | e :: es, v :: vs, bs, hlen, hb, hn, us, oC, W, s, l, Q, E, r, ok, R, ho, hl, k => by
    cases r with
    | @cons _ _ u us r rs =>
      rw [List.zip_cons_cons, List.mapM_cons] at hb
      cases e with
      | Name x p =>
        simp only [nmV, bind_pure_comp, Option.bind_eq_bind, Option.bind_some] at hb
        cases hr : ((es.zip vs).mapM nmV) with
        | none => rw [hr] at hb; simp [nmV] at hb
        | some bs' =>
          rw [hr] at hb
          simp at hb
          subst hb
          refine assignInOrder_cons ?_
          refine wpAny_bind (wpAny_standAt (wpAny_bindName (storeC hkd hps ok R ho hl (hn _ (.head _)) r fun oC' h' tk ho' hl' R' => ?_)))
          exact asgInOrderC hkd hps es vs bs' (by simpa using hlen) hr (fun b hb => hn b (.tail _ hb)) us oC' W _ _ Q E rs (ok.keys (by simp)) R' ho' hl' fun oC'' h'' tk'' a b c => k oC'' h'' tk'' a b c
      | _ => simp [nmV] at hb

theorem asgC (all : FxAll fx) (hq : fx.qt = true) {scope : Scope} (hkd : scope.kind = .function) {C : Addr} {cl : List (Str × Addr)} {oC : Obj} {ps : List (Addr × Obj)} (hps : ∀ p ∈ ps, ∀ xs, p.2 ≠ tupObj xs) (ok : ExOk fx (ps ++ [(C, oC)])) (R : Rep (fx.pushL (ps ++ [(C, oC)])) σ W s) (ho : NsObj oC)
    {t : Expr} {v : V} {u : Value} {bs : List (Str × V)} (ht : tgtV t v = some bs) (hn : ∀ b ∈ bs, scope.names.lookup b.1 = some .local) (r : VR W v u) {Q : Unit → Shared → Prop} {E : Value → Shared → Prop}
    (k : ∀ oC' h' tk, NsObj oC' → CLR W (setAll (fun _ => none) bs) oC' → Rep (fx.pushL (ps ++ [(C, oC')])) σ W { s with heap := h', toks := tk } → Q () { s with heap := h', toks := tk }) :
    wpAny fx.M fx.A (assign t (compEnvC scope cl C fx.env) u) Q E s := by
  unfold tgtV at ht
  split at ht
  · cases ht
    exact wpAny_bind (wpAny_standAt (wpAny_bindName (storeC hkd hps ok R ho (l := fun _ => none) (fun _ _ h => by cases h) (hn _ (.head _)) r k)))
  · rename_i es n p
    split at ht
    · rename_i vs
      split at ht
      · rename_i hlen
        obtain ⟨a, xs, rfl, h2, h3⟩ := R.tup_at r
        have hall : ∀ (es : List Expr) (vs : List V) (bs : List (Str × V)), es.length = vs.length → ((es.zip vs).mapM nmV) = some bs → ∀ env, (assignEach es env).length = es.length ∧ (assignEach es env).findIdx? (·.1) = none := by
          intro es
          induction es with
          | nil => intro vs bs _ _ env; exact ⟨rfl, rfl⟩
          | cons e es ih =>
            intro vs bs hl hb env
            cases vs with
            | nil => simp at hl
            | cons v vs =>
              rw [List.zip_cons_cons, List.mapM_cons] at hb
              cases e with
              | Name x p =>
                cases hr : ((es.zip vs).mapM nmV) with
                | none => rw [hr] at hb; simp [nmV] at hb
                | some bs' =>
                  obtain ⟨i1, i2⟩ := ih vs bs' (by simpa using hl) hr env
                  have e1 : assignEach (Expr.Name x p :: es) env = (false, assign (.Name x p) env) :: assignEach es env := rfl
                  rw [e1]
                  refine ⟨by simp [i1], ?_⟩
                  rw [List.findIdx?_cons, i2]
                  rfl
              | _ => simp [nmV] at hb
        obtain ⟨q1, q2⟩ := hall es vs bs hlen ht (compEnvC scope cl C fx.env)
        refine assign_Tuple_tuple (all.ok.handled hq) (tupObj_isTup h2) (by rw [q1, hlen, h3.length]; simp) q2 fun h' he => ?_
        have R' := R.keep (h' := h') s.toks fun b o e => he b o (Nat.ne_of_lt (Heap.lt_size e)) e
        exact asgInOrderC hkd hps es vs bs hlen ht hn _ oC W _ (fun _ => none) Q E (by simpa using h3) ok R' ho (fun _ _ h => by cases h) fun oC' h'' tk a b c => k oC' h'' tk a b c
      · cases ht
    · cases ht
  · cases ht

def EvTs (fx : Fx) (X : XP) (ifs : List Expr) (σ : St) (Q : Bool → St → Prop) : Prop := ∀ W s, Rep fx σ W s → wpAny fx.M fx.A (forIn ifs true fun c r => if r = true then do let ok ← isTrue c fx.env (eval c fx.env); pure (ForInStep.yield ok) else pure (ForInStep.yield r)) (PB fx W Q) (PX fx W X) s
theorem evTs_nil {Q : Bool → St → Prop} (h : Q true σ) : EvTs fx X [] σ Q := fun _ _ R => wpAny_tests_nil (.here R h)
theorem compLoop_any {prog : Program} {w : World} {A : Around} {R : Result → Shared → Prop} {s : Shared} {elt target iter : Expr} {ifs : List Expr} {scope : Scope} {pos : Pos} {it acc : Value} {env : Env} (I : Nat → Shared → Prop)
    (turn : ∀ n s, I n s → wpAny (model prog w) A (pyNext it) (fun r s₁ => match r with
      | none => R (.ok .next) s₁
      | some v => wpAny (model prog w) A (letOwnedTupleGo target it v) (fun _ s₁' => wpAny (model prog w) A (assign target env v) (fun _ s₂ =>
          wpAny (model prog w) A (forIn ifs true fun c r => if r = true then do let ok ← isTrue c env (eval c env); pure (ForInStep.yield ok) else pure (ForInStep.yield r)) (fun ok s₃ =>
            if ok = true then wpAny (model prog w) A (eval elt env) (fun x s₄ =>
              wpAny (model prog w) A (call (.builtin "list.append") [acc, x]) (fun _ s₅ => ∃ m, m < n ∧ I m s₅) (notedBy (model prog w) A env fun e s' => R (.error e) s') s₄) (notedBy (model prog w) A env fun e s' => R (.error e) s') s₃
            else ∃ m, m < n ∧ I m s₃) (notedBy (model prog w) A env fun e s' => R (.error e) s') s₂) (notedBy (model prog w) A env fun e s' => R (.error e) s') s₁') (notedBy (model prog w) A env fun e s' => R (.error e) s') s₁) (notedBy (model prog w) A env fun e s' => R (.error e) s') s)
    (n : Nat) (h : I n s) :
    codeAny (model prog w) A (.compLoop (.ListComp elt [⟨target, iter, ifs, 0⟩] scope pos) 0 it acc env) R s := by
  refine codeAny_loop rfl I (fun n s hI => ?_) n h
  show wpAny _ A ((compTurn (.ListComp elt [⟨target, iter, ifs, 0⟩] scope pos) 0 it acc env).onRaise (fun x => do noteFrame x env; theTreesLotGoes x)) _ _ s
  refine wpAny_noted ?_
  rw [compTurn_list]
  refine wpAny_bind (wpAny_standAt (wpAny_bind (wpAny_mono (turn n s hI) (fun r s₁ h₁ => ?_) fun _ _ h' => h')))
  cases r with
  | none => exact wpAny_pure h₁
  | some v =>
    refine wpAny_bind (wpAny_mono h₁ (fun _ s₁' h₁' => ?_) fun _ _ h' => h')
    refine wpAny_bind (wpAny_mono h₁' (fun _ s₂ h₂ => wpAny_bind (wpAny_mono h₂ (fun ok s₃ h₃ => ?_) fun _ _ h' => h')) fun _ _ h' => h')
    cases ok with
    | false => exact wpAny_pure ⟨rfl, h₃⟩
    | true =>
      exact wpAny_bind (wpAny_bind (wpAny_mono h₃ (fun x s₄ h₄ => wpAny_bind (wpAny_mono h₄ (fun _ s₅ h₅ => wpAny_pure (wpAny_pure ⟨rfl, h₅⟩)) fun _ _ h' => h')) fun _ _ h' => h'))

/-- what a comprehension's turns do -/
def CompJ (fx : Fx) (elt t : Expr) (ifs : List Expr) (scope : Scope) (its : List V) (need : St → Prop) (σ₁ : St) (J : Nat → List O → Prop) : Prop :=
  J 0 (σ₁.hp ++ [.list []]) ∧ (∀ k hp, J k hp → need ⟨σ₁.loc, hp⟩) ∧ its.length ≤ sizeLine ∧
  ∀ (k : Nat) hp (hk : k < its.length), J k hp → ∃ bs, tgtV t its[k] = some bs ∧ (∀ b ∈ bs, scope.names.lookup b.1 = some .local) ∧
    ∀ fc : Fx, FxAll fc → fc.pg = fx.pg → fc.ns = fx.ns → fc.lev = fx.lev → fc.qt = fx.qt → fc.env.scope = relabel scope fx.env →
      EvTs fc X0 ifs ⟨setAll (compLoc scope σ₁.loc) bs, hp⟩ (fun b σ₂ => if b then EvE fc X0 elt σ₂ (fun v σ₃ => ∃ acc, σ₃.hp[σ₁.hp.length]? = some (.list acc) ∧ acc.length ≤ k ∧ J (k + 1) (σ₃.hp.set σ₁.hp.length (.list (acc ++ [v])))) else J (k + 1) σ₂.hp)

theorem setAll_or (a : Str → Option V) : ∀ (bs : List (Str × V)) (b : Str → Option V), setAll (fun y => (b y).or (a y)) bs = fun y => (setAll b bs y).or (a y)
  | [], _ => rfl
  | (x, w) :: r, b => by
    have e : setN (fun y => (b y).or (a y)) x w = fun y => ((setN b x w) y).or (a y) := by
      funext y
      unfold setN
      split <;> simp
    show setAll (setN (fun y => (b y).or (a y)) x w) r = _
    rw [e]
    exact setAll_or a r (setN b x w)
theorem setAll_split {a : Str → Option V} {bs : List (Str × V)} {y : Str} {v : V} (h : setAll a bs y = some v) : setAll (fun _ => none) bs y = some v ∨ a y = some v := by
  have e := congrFun (setAll_or a bs fun _ => none) y
  simp only [Option.none_or] at e
  rw [e] at h
  cases q : setAll (fun _ => none) bs y with
  | none => rw [q, Option.none_or] at h; exact .inr h
  | some w => rw [q] at h; simp at h; subst h; exact .inl rfl
theorem setAll_mem : ∀ {bs : List (Str × V)} {l : Str → Option V} {y : Str} {v : V}, setAll l bs y = some v → (∃ b ∈ bs, b.1 = y) ∨ l y = some v
  | [], _, _, _, h => .inr h
  | (x, w) :: r, l, y, v, h => by
    rcases setAll_mem (bs := r) h with ⟨b, hb, e⟩ | q
    · exact .inl ⟨b, .tail _ hb, e⟩
    · unfold setN at q
      split at q
      · rename_i e
        exact .inl ⟨_, .head _, e.symm⟩
      · exact .inr q

theorem comp_core (all : FxAll fx) (hq : fx.qt = true) {elt t iter : Expr} {ifs : List Expr} {scope : Scope} {pos pos' : Pos} {use : Option (Value → Sem Unit)} (co : CompOk fx.env scope) (hs : ∀ x, foldedSetIterable iter fx.env x = pure x) {Qr : Value → Shared → Prop}
    {P : List V → (St → Prop) → St → Prop} (hI : IterT fx X iter σ P) (R : Rep fx σ W s)
    (body : ∀ its need σ₁, P its need σ₁ → ∃ J, CompJ fx elt t ifs scope its need σ₁ J ∧
      ∀ C oC D hp W' s', ExOk fx [(C, oC)] → NsObj oC → W.le W' → Rep (fx.pushL [(C, oC)]) ⟨σ₁.loc, hp⟩ W' s' → W'.al[σ₁.hp.length]? = some D → J its.length hp → compPost fx.M fx.A (PX fx W X) use Qr (.ref D) C (.ok .next) s') :
    wpAny fx.M fx.A (comprehension (.ListComp elt [⟨t, iter, ifs, 0⟩] scope pos) scope fx.env pos' (newList []) false (eval iter fx.env) use) Qr (PX fx W X) s := by
  have hfree : ∀ n, (n, NameKind.free) ∈ scope.names → fx.env.cells.lookup n ≠ none := fun n hn => all.cdef n (co.free n (co.frees _ hn rfl))
  refine wpAny_comprehension_free (g := ⟨t, iter, ifs, 0⟩) (gs := []) rfl hs (closure_ok hfree) co.kind co.names (wpAny_mono (hI W s R) (fun xv s₁ h₁ => wpAny_mono h₁ (fun it s₂ h₂ => ?_) fun _ _ e => e) fun _ _ e => e)
  obtain ⟨Io, st, ps, W₁, σ₁, its, need, rfl, le₁, S, hst, hex, R₁, hP⟩ := h₂
  obtain ⟨J, ⟨h0, hneed, hsz, turn⟩, fin⟩ := body its need σ₁ hP
  -- the list
  obtain ⟨W₂, le₂, hal₂, R₂⟩ := R₁.alloc (o := .list []) (ob := listObj [] 0) s₂.toks rfl fun W' _ => .list 0 .nil
  refine wpAny_newObj_type ?_ (by size_fits)
  have hn₁ : W₁.al.length = σ₁.hp.length := by obtain ⟨_, _, _, _, _, _, _, c⟩ := R₁; exact c.len
  have hD : W₂.al[σ₁.hp.length]? = some s₂.heap.objs.size := by rw [hal₂, ← hn₁]; simp
  -- the names
  refine wpAny_newFunctionEnv co.nocell (by intro y hy; simp at hy) (fun h₃ hns₃ hsb₃ => ?_) co.kind
  dsimp only at hns₃ hsb₃ ⊢
  generalize hH : s₂.heap.push { cls := .type "list", dict := none, data := .seq ([] : List Value).toArray } = H2 at hns₃ hsb₃ R₂ ⊢
  obtain ⟨oC, es, ep, hgC, hdC, hkC, hfC⟩ := hns₃
  have old : ∀ b o, H2.get? b = some o → h₃.get? b = some o := fun b o e => hsb₃.extBut b o (Nat.ne_of_lt (Heap.lt_size e)) (Heap.get?_push_of_some _ e)
  obtain ⟨R₃, ok₃⟩ := Rep.exPush (s := { s₂ with heap := H2, toks := s₂.toks }) R₂ [(H2.objs.size, oC)] (by simp) s₂.toks old (fun p hp => by rw [List.mem_singleton.mp hp]; exact Nat.le_refl _)
    (fun p hp => by rw [List.mem_singleton.mp hp]; exact hgC) (R₂.locals_at (all.pushL hex))
  -- the frame's own things in the order that the loop wants
  have okC : ExOk fx [(H2.objs.size, oC)] := ⟨by simp, fun p hp => ok₃.dis p (List.mem_append_right _ hp), ok₃.cel, ok₃.loc⟩
  have okP : ExOk (fx.pushL [(H2.objs.size, oC)]) ps := ⟨hex.nd, fun p hp q => by
    rcases List.mem_append.mp hp with hp | hp
    · rw [List.mem_singleton.mp hp] at q
      obtain ⟨o, ho⟩ := mem_keys q
      exact ok₃.dis _ (List.mem_append_left _ ho) (by simp)
    · exact hex.dis p hp q, hex.cel, hex.loc⟩
  have perm : ∀ {σ' W' s'} {a b : List (Addr × Obj)}, Rep ((fx.pushL a).pushL b) σ' W' s' → Rep ((fx.pushL b).pushL a) σ' W' s' := by
    intro σ' W' s' a b R'
    refine R'.elim fun e g m news G F N c => ?_
    have hmem : ∀ p, p ∈ a ++ (b ++ fx.ex) → p ∈ b ++ (a ++ fx.ex) := fun p hp => by
      simp only [List.mem_append] at hp ⊢
      rcases hp with h | h | h <;> simp [h]
    have hmem' : ∀ p, p ∈ b ++ (a ++ fx.ex) → p ∈ a ++ (b ++ fx.ex) := fun p hp => by
      simp only [List.mem_append] at hp ⊢
      rcases hp with h | h | h <;> simp [h]
    refine ⟨e, g, m, news, G, F, N, c.nd, fun p hp => c.exs p (hmem p hp), fun p hp => c.exd p (hmem p hp), c.aln, c.len, c.obs, c.tps, fun x v h => ?_, c.cel, c.scc, c.mfx, fun p hp t ht => c.ext p (hmem p hp) t ht⟩
    obtain ⟨u, h1, h2⟩ := c.loc x v h
    refine ⟨u, h1, ?_⟩
    cases h2 with
    | loc a b c => exact .loc a b c
    | comp a b c => exact .comp a (hmem' _ b) c
    | cell a b c d => exact .cell a b c d
  have R₄ := perm R₃
  have loop : ∀ s₃ : Shared, s₃ = { s₂ with heap := h₃, toks := s₂.toks } →
      codeAny fx.M fx.A (.compLoop (.ListComp elt [⟨t, iter, ifs, 0⟩] scope pos) 0 (.ref Io) (.ref s₂.heap.objs.size) (compEnvC scope (clOf fx.env scope.names []) H2.objs.size fx.env))
        (compPost fx.M fx.A (PX fx W X) use Qr (.ref s₂.heap.objs.size) H2.objs.size) s₃ := by
    rintro s₃ rfl
    refine compLoop_any (fun n s' => ∃ k ps' oC' W' hp, n = its.length - k ∧ k ≤ its.length ∧ W₂.le W' ∧ st k ps' ∧ ExOk fx [(H2.objs.size, oC')] ∧ ExOk (fx.pushL [(H2.objs.size, oC')]) ps' ∧ NsObj oC' ∧
      Rep ((fx.pushL [(H2.objs.size, oC')]).pushL ps') ⟨σ₁.loc, hp⟩ W' s' ∧ J k hp) ?_ its.length ⟨0, ps, oC, W₂, _, rfl, Nat.zero_le _, .refl _, hst, okC, okP, ⟨es, ep, hdC, hkC⟩, R₄, h0⟩
    rintro n s' ⟨k, ps', oC', W', hp, rfl, hk, le', hst', okC', okP', hoC', R', hJ⟩
    have LE' := le₁.trans (le₂.trans le')
    rcases Nat.lt_or_ge k its.length with hlt | hge
    · refine S.next [(H2.objs.size, oC')] k ps' _ W' s' hlt (le₂.trans le') hst' okP' R' (hneed k hp hJ) _ _ fun u ps'' W'' h'' tk'' hst'' hkey le'' r'' R'' => ?_
      refine S.own [(H2.objs.size, oC')] (k + 1) ps'' _ W'' _ t u hst'' R'' _ _ ?_
      have okP'' := okP'.keys hkey
      have okJ := okC'.join okP''
      rw [pushL_pushL] at R''
      obtain ⟨bs, htv, hloc, ht⟩ := turn k hp hlt hJ
      have hps'' := S.tup (k + 1) ps'' hst''
      refine asgC all hq co.kind hps'' okJ R'' hoC' htv hloc r'' fun oC₂ h₅ tk₅ ho₂ hl₂ R₅ => ?_
      have okC₂ : ExOk fx [(H2.objs.size, oC₂)] := okC'.keys rfl
      have okP₂ : ExOk (fx.pushL [(H2.objs.size, oC₂)]) ps'' := ExOk.left (qs := [(H2.objs.size, oC')]) rfl okP''
      obtain ⟨fc, allc, e1, e2, e3, e4, e5, e6, Rc, back⟩ := toC all co (List.mem_append_right _ (List.mem_singleton.mpr rfl)) R₅ hl₂ (fun y v h => by
        rcases setAll_mem h with ⟨b, hb, rfl⟩ | q
        · exact hloc b hb
        · cases q) (l' := setAll (compLoc scope σ₁.loc) bs) (fun y v h => setAll_split h)
      have hM : fc.M = fx.M := by show model fc.pg.prog fc.pg.w = model fx.pg.prog fx.pg.w; rw [e1]
      have h₆ := ht fc allc e1 e2 e3 e6 (by rw [e4]; rfl) W'' _ Rc
      rw [hM, e5, e4] at h₆
      refine wpAny_mono h₆ ?_ fun _ _ x => x.never.elim
      refine fun b s₆ zz => zz.elim fun W₆ σ₆ le₆ R₆ h₆' => ?_
      cases b with
      | true =>
        have h₇ := h₆' W₆ s₆ R₆
        rw [hM, e5, e4] at h₇
        simp only [if_true]
        refine wpAny_mono h₇ ?_ fun _ _ x => x.never.elim
        rintro y s₇ ⟨W₇, σ₇, v, le₇, R₇, r₇, acc, hacc, hlen, hJ₇⟩
        have R₈ := back σ₇ W₇ s₇ (le₆.trans le₇) R₇
        have leT : W₂.le W₇ := ((le'.trans le'').trans le₆).trans le₇
        have h₈ := append_ok (fx := fx.pushL (ps'' ++ [(H2.objs.size, oC₂)])) (X := X0) (σ := ⟨σ₁.loc, σ₇.hp⟩) (Q := fun r σ' => J (k + 1) σ'.hp ∧ σ'.loc = σ₁.loc) (v := v) hacc (by omega) ⟨hJ₇, rfl⟩ W₇ s₇ [.ref s₂.heap.objs.size, y] R₈
          (.cons (.ref (prefix_get leT.1 hD)) (.cons r₇ .nil))
        refine wpAny_mono h₈ ?_ fun _ _ x => x.never.elim
        rintro z s₉ ⟨W₉, σ₉, v₉, le₉, R₉, r₉, hJ₉, hl₉⟩
        obtain ⟨loc₉, hp₉⟩ := σ₉
        dsimp only at hl₉ hJ₉
        subst hl₉
        refine ⟨its.length - (k + 1), by omega, k + 1, ps'', oC₂, W₉, hp₉, rfl, hlt, leT.trans le₉, hst'', okC₂, okP₂, ho₂, ?_, hJ₉⟩
        rw [pushL_pushL]
        exact R₉
      | false =>
        have R₈ := back σ₆ W₆ s₆ le₆ R₆
        refine ⟨its.length - (k + 1), by omega, k + 1, ps'', oC₂, W₆, σ₆.hp, rfl, hlt, (le'.trans le'').trans le₆, hst'', okC₂, okP₂, ho₂, ?_, h₆'⟩
        rw [pushL_pushL]
        exact R₈
    · obtain rfl : k = its.length := Nat.le_antisymm hk hge
      refine S.done [(H2.objs.size, oC')] ps' _ W' s' (le₂.trans le') hst' okP' R' (hneed _ hp hJ) _ _ fun h'' tk'' R'' => ?_
      exact fin H2.objs.size oC' s₂.heap.objs.size hp W' _ okC' hoC' LE' R'' (prefix_get le'.1 hD) hJ
  exact codeAny_compStart_list (loop _ rfl) (S.self [(H2.objs.size, oC)] 0 ps _ W₂ _ hst R₄ _ _ (loop _ rfl))
end
end Mine

set_option autoImplicit false
namespace Mine
open PySem PySem.W PySem.Calls PySem.Spec PyProof.Rows

section
variable {fx : Fx} {X : XP} {σ : St} {W : Wd} {s : Shared}

theorem ns_at {h : Heap} {C : Addr} {oC : Obj} (hg : h.get? C = some oC) (ho : NsObj oC) : ∃ m, h.Ns C m := by
  obtain ⟨es, ep, hd, hk⟩ := ho
  exact ⟨nsFind es, oC, es, ep, hg, hd, hk, fun _ => rfl⟩

theorem evComp (all : FxAll fx) (hq : fx.qt = true) {elt t iter : Expr} {ifs : List Expr} {scope : Scope} {pos : Pos} {Q : V → St → Prop} (co : CompOk fx.env scope) (hs : ∀ x, foldedSetIterable iter fx.env x = pure x)
    (h : IterT fx X iter σ (fun its need σ₁ => ∃ J, CompJ fx elt t ifs scope its need σ₁ J ∧ ∀ hp, J its.length hp → Q (.ref σ₁.hp.length) ⟨σ₁.loc, hp⟩)) : EvE fx X (.ListComp elt [⟨t, iter, ifs, 0⟩] scope pos) σ Q := by
  intro W s R
  show wpAny fx.M fx.A (comprehension (.ListComp elt [⟨t, iter, ifs, 0⟩] scope pos) scope fx.env _ (newList []) false (eval iter fx.env) none) _ _ s
  refine comp_core all hq co hs h R fun its need σ₁ ⟨J, hJ, fin⟩ => ⟨J, hJ, fun C oC D hp W' s' okC ho le R' hD hJ' => ?_⟩
  obtain ⟨m, hm⟩ := ns_at (R'.exPop (List.mem_singleton.mpr rfl)) ho
  refine ⟨m, hm, fun h' hs' => ?_⟩
  have R'' := R'.exDrop okC s'.toks (h' := h') fun b o hb e => (hs'.2 b (by simpa using hb)).trans e
  exact ⟨W', _, .ref σ₁.hp.length, le, R'', .ref hD, fin hp hJ'⟩

theorem evAssignComp (all : FxAll fx) (hq : fx.qt = true) {elt t iter : Expr} {ifs : List Expr} {scope : Scope} {pos p spos : Pos} {y : Str} {Q : Fl → St → Prop} (hy : isVar fx y) (co : CompOk fx.env scope) (hs : ∀ x, foldedSetIterable iter fx.env x = pure x)
    (h : IterT fx X iter σ (fun its need σ₁ => ∃ J, CompJ fx elt t ifs scope its need σ₁ J ∧ ∀ hp, J its.length hp → Q .next ⟨setN σ₁.loc y (.ref σ₁.hp.length), hp⟩)) :
    EvS fx X (.Assign [.Name y p] (.ListComp elt [⟨t, iter, ifs, 0⟩] scope pos) spos) σ Q := by
  have hsw : ∃ b, swapsWith (.ListComp elt [⟨t, iter, ifs, 0⟩] scope pos) (some (.Name y p)) spos.line fx.env = pure b := ⟨_, rfl⟩
  obtain ⟨b, hb⟩ := hsw
  intro W s R
  cases b with
  | false =>
    refine wpAny_Assign_Name (wpAny_mono (evComp all hq co hs (Q := fun v σ' => Q .next (σ'.set y v)) (h.mono fun its need σ' ⟨J, a, b⟩ => ⟨J, a, fun hp q => b hp q⟩) W s R) ?_ fun _ _ x => x) hb
    refine fun u s₁ zz => zz.elim fun W₁ σ₁ v le₁ R₁ r₁ h₁ => ?_
    exact storeVar all hy R₁ r₁ fun _ _ R₂ => ⟨W₁, _, .next, le₁, R₂, .next, h₁⟩
  | true =>
    rw [exec_Assign_Name_used _ _ _ _ hb]
    refine wpAny_bind (wpAny_standAt (wpAny_bind ?_))
    show wpAny _ _ (do let _ ← comprehension (.ListComp elt [⟨t, iter, ifs, 0⟩] scope pos) scope fx.env _ (newList []) false (eval iter fx.env) (some (assign (.Name y p) fx.env))) _ _ s
    refine wpAny_bind (wpAny_mono (comp_core all hq co hs h R (use := some (assign (.Name y p) fx.env)) (Qr := fun _ s' => PF fx W Q .next s') fun its need σ₁ ⟨J, hJ, fin⟩ => ⟨J, hJ, fun C oC D hp W' s' okC ho le R' hD hJ' => ?_⟩)
      (fun _ s' hq' => wpAny_pure (wpAny_pure hq')) fun _ _ x => x)
    show wpAny fx.M fx.A (assign (.Name y p) fx.env (.ref D)) _ _ s'
    have hy' : isVar (fx.pushL [(C, oC)]) y := hy
    refine wpAny_mono (asgName (X := X0) (all.pushL okC) hy' (Q := fun σ' => σ' = (⟨setN σ₁.loc y (.ref σ₁.hp.length), hp⟩ : St)) (p := p) rfl W' s' (.ref D) R' (.ref hD)) ?_ fun _ _ x => x.never.elim
    rintro _ s₂ ⟨W₂, σ₂, le₂, R₂, rfl⟩
    obtain ⟨m, hm⟩ := ns_at (R₂.exPop (List.mem_singleton.mpr rfl)) ho
    refine ⟨m, hm, fun h' hs' => ?_⟩
    have R'' := R₂.exDrop okC s₂.toks (h' := h') fun b o hb e => (hs'.2 b (by simpa using hb)).trans e
    exact ⟨W₂, _, .next, le.trans le₂, R'', .next, fin hp hJ'⟩

theorem evCallF (all : FxAll fx) {f : Str} {p pos : Pos} {a : Addr} {e : Expr} {rest : List Expr} {Q : V → St → Prop} (hf : fx.pg.gl f = some (.ref a)) (hk : fx.env.kindOf f = some .globalImplicit) (hd : (f == ("__debug__" : Str)) = false) (hfn : fnIn fx.pg.K a = true) (hs : (e :: rest).all noStar = true)
    (h : EvEs fx X (e :: rest) σ (fun vs σ₁ => CallT fx X (.ref a) vs σ₁ Q)) : EvE fx X (.Call (.Name f p) (e :: rest) [] pos) σ Q := by
  intro W s R
  rw [List.all_cons, Bool.and_eq_true] at hs
  refine Call_Name rfl (all.glb f _ p hf hk σ W s _ _ R ?_ hd)
  unfold fnIn at hfn
  split at hfn
  · rename_i c d fd sl q
    refine callWith_def (o := ⟨c, d, .func fd, sl⟩) (fd := fd) rfl (wpAny_mono (h W s pos R) ?_ fun _ _ x => x) (star_cons hs.1 _ _)
    refine fun us s₁ zz => zz.elim fun W₁ σ₁ vs le₁ R₁ r₁ h₁ => ?_
    refine ⟨?_, wpAny_mono (h₁ W₁ s₁ us R₁ r₁) (fun _ _ x => x.mono le₁ fun _ _ y => y) fun _ _ x => x.mono le₁ fun _ _ y => y⟩
    exact all.stays R₁ _ _ (all.part _ _ q)
  · cases hfn

theorem callT_of (all : FxAll fx) {lev : Nat} {qt : Bool} {a : Addr} {vs : List V} {Q : V → St → Prop} (hl : lev ≤ fx.lev) (hq : qt = true → fx.qt = true) (h : CallOK fx.pg lev qt fx.ns a vs σ.hp (fun c hp' => X c ⟨σ.loc, hp'⟩) (fun v hp' => Q v ⟨σ.loc, hp'⟩)) : CallT fx X (.ref a) vs σ Q :=
  fun W s us R r => wpAny_mono (wpAny_call (h fx all rfl hl rfl hq σ.loc W s us R r)) (fun _ _ x => x.mono (.refl _) fun v σ' ⟨y, z⟩ => by obtain ⟨l, hp⟩ := σ'; dsimp only at y z; subst y; exact z)
    fun _ _ x => x.mono (.refl _) fun v σ' ⟨y, z⟩ => by obtain ⟨l, hp⟩ := σ'; dsimp only at y z; subst y; exact z

/-- targets of a frame's own -/
theorem asgInOrder (all : FxAll fx) : ∀ (es : List Expr) (vs : List V) (bs : List (Str × V)), es.length = vs.length → ((es.zip vs).mapM nmV) = some bs → (∀ b ∈ bs, isVar fx b.1) →
    ∀ (us : List Value) (σ : St) (W : Wd) (s : Shared) (Q : Unit → Shared → Prop) (E : Value → Shared → Prop), VRs W vs us → Rep fx σ W s →
    (∀ h' tk, Rep fx ⟨setAll σ.loc bs, σ.hp⟩ W { s with heap := h', toks := tk } → Q () { s with heap := h', toks := tk }) →
    wpAny fx.M fx.A (PySem.assignInOrder ((assignEach es fx.env).map (·.2)) us) Q E s
  | [], vs, bs, hlen, hb, hn, us, σ, W, s, Q, E, r, R, k => by
    simp at hb
    subst hb
    exact assignInOrder_nil (k s.heap s.toks R)
  | e :: es, [], bs, hlen, hb, hn, us, σ, W, s, Q, E, r, R, k => by simp at hlen
  | e :: es, v :: vs, bs, hlen, hb, hn, us, σ, W, s, Q, E, r, R, k => by
    cases r with
    | @cons _ _ u us r rs =>
      rw [List.zip_cons_cons, List.mapM_cons] at hb
      cases e with
      | Name x p =>
        simp only [nmV, bind_pure_comp, Option.bind_eq_bind, Option.bind_some] at hb
        cases hr : ((es.zip vs).mapM nmV) with
        | none => rw [hr] at hb; simp [nmV] at hb
        | some bs' =>
          rw [hr] at hb
          simp at hb
          subst hb
          refine assignInOrder_cons ?_
          refine wpAny_bind (wpAny_standAt (wpAny_bindName (storeVar all (hn _ (.head _)) R r fun h' tk R' => ?_)))
          exact asgInOrder all es vs bs' (by simpa using hlen) hr (fun b hb => hn b (.tail _ hb)) us _ W _ Q E rs R' fun h'' tk'' a => k h'' tk'' a
      | _ => simp [nmV] at hb

theorem tgt_each : ∀ (es : List Expr) (vs : List V) (bs : List (Str × V)), es.length = vs.length → ((es.zip vs).mapM nmV) = some bs → ∀ env, (assignEach es env).length = es.length ∧ (assignEach es env).findIdx? (·.1) = none := by
  intro es
  induction es with
  | nil => intro vs bs _ _ env; exact ⟨rfl, rfl⟩
  | cons e es ih =>
    intro vs bs hl hb env
    cases vs with
    | nil => simp at hl
    | cons v vs =>
      rw [List.zip_cons_cons, List.mapM_cons] at hb
      cases e with
      | Name x p =>
        cases hr : ((es.zip vs).mapM nmV) with
        | none => rw [hr] at hb; simp [nmV] at hb
        | some bs' =>
          obtain ⟨i1, i2⟩ := ih vs bs' (by simpa using hl) hr env
          have e1 : assignEach (Expr.Name x p :: es) env = (false, assign (.Name x p) env) :: assignEach es env := rfl
          rw [e1]
          refine ⟨by simp [i1], ?_⟩
          rw [List.findIdx?_cons, i2]
          rfl
      | _ => simp [nmV] at hb

theorem asgT_of (all : FxAll fx) (hq : fx.qt = true) {t : Expr} {v : V} {bs : List (Str × V)} {Q : St → Prop} (ht : tgtV t v = some bs) (hn : ∀ b ∈ bs, isVar fx b.1) (h : Q ⟨setAll σ.loc bs, σ.hp⟩) : AsgT fx X t v σ Q := by
  unfold tgtV at ht
  split at ht
  · cases ht
    exact asgName all (hn _ (.head _)) h
  · rename_i es n p
    split at ht
    · rename_i vs
      split at ht
      · rename_i hlen
        intro W s u R r
        obtain ⟨a, xs, rfl, h2, h3⟩ := R.tup_at r
        obtain ⟨q1, q2⟩ := tgt_each es vs bs hlen ht fx.env
        refine assign_Tuple_tuple (all.ok.handled hq) (tupObj_isTup h2) (by rw [q1, hlen, h3.length]; simp) q2 fun h' he => ?_
        have R' := R.keep (h' := h') s.toks fun b o e => he b o (Nat.ne_of_lt (Heap.lt_size e)) e
        exact asgInOrder all es vs bs hlen ht hn _ σ W _ _ _ (by simpa using h3) R' fun h'' tk a => ⟨W, _, .refl _, a, h⟩
      · cases ht
    · cases ht
  · cases ht

/-! stores into lists -/
end
end Mine

set_option autoImplicit false
namespace Mine
open PySem PySem.W PySem.Calls PySem.Spec PyProof.Rows

theorem ofString_inj (a b : String) : (Str.ofString a = Str.ofString b) = (a = b) := by
  refine propext ⟨fun h => ?_, fun h => h ▸ rfl⟩
  rw [Str.ofString_eq_toList, Str.ofString_eq_toList] at h
  have h1 : (a.toList.map Char.toNat) = (b.toList.map Char.toNat) := by simpa using h
  have h2 : a.toList = b.toList := by
    have inj : ∀ c d : Char, c.toNat = d.toNat → c = d := fun c d e => Char.toNat_inj.mp e
    exact List.map_inj_right inj |>.mp h1
  exact String.toList_inj.mp h2

section
variable {fx : Fx} {X : XP} {σ : St} {W : Wd} {s : Shared}

theorem evCmp2 {l r₁ r₂ : Expr} {op₁ op₂ : CmpOp} {pos : Pos} {Q : V → St → Prop}
    (h : EvE fx X l σ (fun a σ₁ => EvE fx X r₁ σ₁ (fun b σ₂ => CmpT fx X op₁ a b σ₂ (fun c σ₃ => TruT fx X c σ₃ (fun t σ₄ => if t then EvE fx X r₂ σ₄ (fun d σ₅ => CmpT fx X op₂ b d σ₅ Q) else Q c σ₄)))))
    (hm : lastMarks [op₁, op₂] [r₁, r₂] = false) : EvE fx X (.Compare l [op₁, op₂] [r₁, r₂] pos) σ Q := by
  intro W s R
  refine Compare_chain (ops := []) (rs := []) (wpAny_mono (h W s R) ?_ fun _ _ x => x) hm
  refine fun u₁ s₁ zz => zz.elim fun W₁ σ₁ a le₁ R₁ q₁ h₁ => ?_
  refine chain_link (wpAny_mono (h₁ W₁ s₁ R₁) ?_ fun _ _ x => x.mono le₁ fun _ _ y => y)
  refine fun u₂ s₂ zz => zz.elim fun W₂ σ₂ b le₂ R₂ q₂ h₂ => ?_
  refine wpAny_mono (h₂ W₂ s₂ u₁ u₂ R₂ (q₁.mono le₂) q₂) ?_ fun _ _ x => x.mono (le₁.trans le₂) fun _ _ y => y
  refine fun u₃ s₃ zz => zz.elim fun W₃ σ₃ c le₃ R₃ q₃ h₃ => ?_
  have LE := (le₁.trans le₂).trans le₃
  refine wpAny_mono (h₃ W₃ s₃ u₃ R₃ q₃) ?_ fun _ _ x => x.mono LE fun _ _ y => y
  refine fun t s₄ zz => zz.elim fun W₄ σ₄ le₄ R₄ h₄ => ?_
  cases t with
  | true =>
    refine chain_last (wpAny_mono (h₄ W₄ s₄ R₄) ?_ fun _ _ x => x.mono (LE.trans le₄) fun _ _ y => y)
    refine fun u₅ s₅ zz => zz.elim fun W₅ σ₅ d le₅ R₅ q₅ h₅ => ?_
    exact wpAny_mono (h₅ W₅ s₅ u₂ u₅ R₅ (q₂.mono ((le₃.trans le₄).trans le₅)) q₅) (fun _ _ x => x.mono ((LE.trans le₄).trans le₅) fun _ _ y => y) fun _ _ x => x.mono ((LE.trans le₄).trans le₅) fun _ _ y => y
  | false => exact ⟨W₄, σ₄, c, LE.trans le₄, R₄, q₃.mono le₄, h₄⟩

theorem evB_cmp2 {l r₁ r₂ : Expr} {op₁ op₂ : CmpOp} {pos : Pos} {Q : Bool → St → Prop}
    (h : EvE fx X l σ (fun a σ₁ => EvE fx X r₁ σ₁ (fun b σ₂ => CmpT fx X op₁ a b σ₂ (fun c σ₃ => TruT fx X c σ₃ (fun t σ₄ => if t then EvE fx X r₂ σ₄ (fun d σ₅ => CmpT fx X op₂ b d σ₅ (fun e σ₆ => TruT fx X e σ₆ Q)) else Q false σ₄)))))
    (hm : lastMarks [op₁, op₂] [r₁, r₂] = false) : EvB fx X (.Compare l [op₁, op₂] [r₁, r₂] pos) σ Q := by
  intro W s R
  refine isTrue_chain (ops := []) (rs := []) (wpAny_mono (h W s R) ?_ fun _ _ x => x) hm
  refine fun u₁ s₁ zz => zz.elim fun W₁ σ₁ a le₁ R₁ q₁ h₁ => ?_
  refine test_link (wpAny_mono (h₁ W₁ s₁ R₁) ?_ fun _ _ x => x.mono le₁ fun _ _ y => y)
  refine fun u₂ s₂ zz => zz.elim fun W₂ σ₂ b le₂ R₂ q₂ h₂ => ?_
  refine wpAny_mono (h₂ W₂ s₂ u₁ u₂ R₂ (q₁.mono le₂) q₂) ?_ fun _ _ x => x.mono (le₁.trans le₂) fun _ _ y => y
  refine fun u₃ s₃ zz => zz.elim fun W₃ σ₃ c le₃ R₃ q₃ h₃ => ?_
  have LE := (le₁.trans le₂).trans le₃
  refine wpAny_mono (h₃ W₃ s₃ u₃ R₃ q₃) ?_ fun _ _ x => x.mono LE fun _ _ y => y
  refine fun t s₄ zz => zz.elim fun W₄ σ₄ le₄ R₄ h₄ => ?_
  cases t with
  | true =>
    refine test_last (wpAny_mono (h₄ W₄ s₄ R₄) ?_ fun _ _ x => x.mono (LE.trans le₄) fun _ _ y => y)
    refine fun u₅ s₅ zz => zz.elim fun W₅ σ₅ d le₅ R₅ q₅ h₅ => ?_
    refine wpAny_mono (h₅ W₅ s₅ u₂ u₅ R₅ (q₂.mono ((le₃.trans le₄).trans le₅)) q₅) ?_ fun _ _ x => x.mono ((LE.trans le₄).trans le₅) fun _ _ y => y
    refine fun u₆ s₆ zz => zz.elim fun W₆ σ₆ e le₆ R₆ q₆ h₆ => ?_
    have LE' := ((LE.trans le₄).trans le₅).trans le₆
    exact wpAny_mono (h₆ W₆ s₆ u₆ R₆ q₆) (fun _ _ x => x.mono LE' fun _ _ y => y) fun _ _ x => x.mono LE' fun _ _ y => y
  | false => exact ⟨W₄, σ₄, LE.trans le₄, R₄, h₄⟩

/-! methods -/
def baseOk : Expr → Bool
  | .Call .. => false
  | _ => true
theorem attributeBase_plain {o : Expr} (h : baseOk o = true) (attr : Str) (env : Env) (whole : Sem Value) : attributeBase o attr env whole = whole := by
  cases o <;> first | rfl | cases h

theorem star_all : ∀ {es : List Expr}, es.all noStar = true → ∀ (pos : Pos) (env : Env), (backTo pos (starEach es env)).all (!·.1) = true
  | [], _, _, _ => rfl
  | e :: r, h, pos, env => by
    rw [List.all_cons, Bool.and_eq_true] at h
    rw [star_cons h.1]
    have := star_all h.2 pos env
    simpa [backTo] using this

theorem evMeth {o : Expr} {name : Str} {apos pos : Pos} {args : List Expr} {Q : V → St → Prop} (hb : baseOk o = true) (ha : args.all noStar = true) (hn : args.length < 30) (hp : (apos.endLine == pos.line) = true)
    (h : EvE fx X o σ (fun ov σ₁ => ∃ id, GetM fx ov name id σ₁ ∧ EvEs fx X args σ₁ (fun vs σ₂ => CallT fx X (.builtin id) (ov :: vs) σ₂ Q))) : EvE fx X (.Call (.Attribute o name apos) args [] pos) σ Q := by
  intro W s R
  have he : eval (.Call (.Attribute o name apos) args [] pos) fx.env = (do
      let ov ← attributeBase o name fx.env (eval o fx.env)
      standAt apos.atName
      methodCall o name apos pos fx.env ov (args.length + 0) (backTo pos (starEach args fx.env)) []) := rfl
  rw [he, attributeBase_plain hb]
  refine wpAny_bind (wpAny_mono (h W s R) ?_ fun _ _ x => x)
  rintro u s₁ ⟨W₁, σ₁, ov, le₁, R₁, r₁, id, hg, h₁⟩
  refine wpAny_bind (wpAny_standAt ?_)
  unfold methodCall
  have hf : methodCallForm (args.length + 0) (backTo pos (starEach args fx.env)) [] = true := by
    unfold methodCallForm
    rw [star_all ha]
    simp; omega
  rw [hf]
  unfold calleeOf
  simp only [if_true]
  refine wpAny_bind (wpAny_holding (hg W₁ s₁ u _ _ _ R₁ r₁ ?_))
  unfold methodCallPos
  simp only [Bool.not_true, Bool.false_or, hp, if_true]
  refine wpAny_bind (wpAny_pure ?_)
  cases args with
  | nil =>
    refine callWith_method0 ?_
    have h₂ := h₁ W₁ s₁ pos R₁
    have h₃ : wpAny fx.M fx.A (spliced (backTo pos (starEach [] fx.env))) (fun us s' => us = [] ∧ PVs fx W₁ (fun vs σ₂ => CallT fx X (.builtin id) (ov :: vs) σ₂ Q) us s') (PX fx W₁ X) s₁ := by
      have e0 : spliced (backTo pos (starEach [] fx.env)) = pure [] := rfl
      rw [e0] at h₂ ⊢
      exact fun Γ p hΓ => ⟨rfl, h₂ Γ p hΓ⟩
    have e0 : spliced (backTo pos (starEach [] fx.env)) = pure [] := rfl
    rw [e0] at h₃
    intro Γ p hΓ
    obtain ⟨_, W₂, σ₂, vs, le₂, R₂, r₂, h₄⟩ := h₃ Γ p hΓ
    cases r₂
    exact wpAny_mono (h₄ W₂ s₁ [u] R₂ (.cons (r₁.mono le₂) .nil)) (fun _ _ x => x.mono (le₁.trans le₂) fun _ _ y => y) (fun _ _ x => x.mono (le₁.trans le₂) fun _ _ y => y) Γ p hΓ
  | cons e rest =>
    rw [List.all_cons, Bool.and_eq_true] at ha
    refine callWith_method1 (wpAny_mono (h₁ W₁ s₁ pos R₁) ?_ fun _ _ x => x.mono le₁ fun _ _ y => y) (star_cons ha.1 _ _) (star_any ha.2 _ _)
    refine fun us s₂ zz => zz.elim fun W₂ σ₂ vs le₂ R₂ r₂ h₂ => ?_
    exact wpAny_mono (h₂ W₂ s₂ (u :: us) R₂ (.cons (r₁.mono le₂) r₂)) (fun _ _ x => x.mono (le₁.trans le₂) fun _ _ y => y) fun _ _ x => x.mono (le₁.trans le₂) fun _ _ y => y

/-! slices -/
def pickV (vs : List V) (lo hi : Option Int) : List V := (vs.drop (kms_lo lo vs.length)).take (kms_hi hi vs.length - kms_lo lo vs.length)
def EvO (fx : Fx) (X : XP) (o : Option Expr) (σ : St) (Q : Option Int → St → Prop) : Prop := match o with
  | none => Q none σ
  | some e => EvE fx X e σ (fun v σ₁ => ∃ k, v = .int k ∧ Q (some k) σ₁)
theorem evO_run {o : Option Expr} {Q : Option Int → St → Prop} (h : EvO fx X o σ Q) (R : Rep fx σ W s) {Q' : Value → Shared → Prop} (k : ∀ u a W' σ' s', W.le W' → Rep fx σ' W' s' → IsPart u a → Q a σ' → Q' u s') :
    wpAny fx.M fx.A (valueOrNone (evalOpt o fx.env)) Q' (PX fx W X) s := by
  cases o with
  | none => exact wpAny_pure (k .none none W σ s (.refl _) R .none h)
  | some e =>
    refine wpAny_mono (h W s R) ?_ fun _ _ x => x
    rintro u s₁ ⟨W₁, σ₁, v, le₁, R₁, r₁, a, rfl, h₁⟩
    cases r₁
    exact k _ (some a) W₁ σ₁ s₁ le₁ R₁ (.int _ _) h₁
def SliceV (o : V) (a b : Option Int) (σ : St) (Q : V → St → Prop) : Prop := ∃ i vs, o = .ref i ∧ (σ.hp[i]? = some (.list vs) ∧ vs.length ≤ sizeLine) ∧ Q (.ref σ.hp.length) ⟨σ.loc, σ.hp ++ [.list (pickV vs a b)]⟩
theorem evSlice {x : Str} {q pos sp : Pos} {lo hi : Option Expr} {Q : V → St → Prop} (h : EvE fx X (.Name x q) σ (fun o σ₁ => EvO fx X lo σ₁ (fun a σ₂ => EvO fx X hi σ₂ (fun b σ₃ => SliceV o a b σ₃ Q)))) : EvE fx X (.Subscript (.Name x q) (.Slice lo hi none sp) pos) σ Q := by
  intro W s R
  refine Subscript_ (wpAny_mono (h W s R) ?_ fun _ _ x => x)
  refine fun u₁ s₁ zz => zz.elim fun W₁ σ₁ o le₁ R₁ r₁ h₁ => ?_
  rw [arm_eval_Slice]
  refine wpAny_bind (wpAny_mono (evO_run h₁ R₁ (Q' := fun u s' => ∃ a W' σ', W₁.le W' ∧ Rep fx σ' W' s' ∧ IsPart u a ∧ EvO fx X hi σ' (fun b σ₃ => SliceV o a b σ₃ Q)) fun u a W' σ' s' le R p q => ⟨a, W', σ', le, R, p, q⟩) ?_ fun _ _ x => x.mono le₁ fun _ _ y => y)
  rintro ul s₂ ⟨a, W₂, σ₂, le₂, R₂, p₂, h₂⟩
  refine wpAny_bind (wpAny_holding (wpAny_mono (evO_run h₂ R₂ (Q' := fun u s' => ∃ b W' σ', W₂.le W' ∧ Rep fx σ' W' s' ∧ IsPart u b ∧ SliceV o a b σ' Q) fun u a W' σ' s' le R p q => ⟨a, W', σ', le, R, p, q⟩) ?_ fun _ _ x => x.mono (le₁.trans le₂) fun _ _ y => y))
  rintro uh s₃ ⟨b, W₃, σ₃, le₃, R₃, p₃, i, vs, rfl, ⟨h3, h4⟩, h5⟩
  refine wpAny_bind (wpAny_holding (wpAny_pure ?_))
  have LE := (le₁.trans le₂).trans le₃
  obtain ⟨l, xs, n, rfl, _, k1, k2⟩ := R₃.list_at h3 (r₁.mono (le₂.trans le₃))
  refine R₃.elim fun er g m news G F N C => ?_
  refine wpAny_newObj_type ?_ (by size_fits)
  refine slice_list F N (listObj_isList k1) p₂ p₃ (fun h' F' N' => ?_) (hsz := by rw [List.size_toArray, ← k2.length]; exact h4)
  rw [kms_pick_eq] at N'
  obtain ⟨W', le', hD, R'⟩ := Rep.addN er G C (o := .list (pickV vs a b)) F' N' (fun p hp => Nat.ne_of_lt (Nat.lt_succ_of_lt (Heap.lt_size (N p hp).1))) fun W' le => .list 0 (by
    unfold pickV kms_pick
    rw [k2.length]
    exact ((k2.mono le).drop _).take _)
  exact ⟨W', _, .ref σ₃.hp.length, LE.trans le', R', .ref hD, h5⟩
/-! all, any -/
theorem vrs_bools {bs : List Bool} {xs : List Value} (h : VRs W (bs.map .bool) xs) : xs = bs.map .bool := by
  induction bs generalizing xs with
  | nil => cases h; rfl
  | cons b bs ih =>
    cases h with
    | cons a r => cases a; rw [ih r]; rfl
theorem all_any (all : FxAll fx) (hq : fx.qt = true) {i : Nat} {bs : List Bool} {Q : V → St → Prop} (ho : σ.hp[i]? = some (.list (bs.map .bool))) :
    (Q (.bool (bs.all id)) σ → CallT fx X (.builtin "all") [.ref i] σ Q) ∧ (Q (.bool (bs.any id)) σ → CallT fx X (.builtin "any") [.ref i] σ Q) := by
  have hh : (fx.A.in1).handled = none := all.ok.handled hq
  have key : ∀ W s us, Rep fx σ W s → VRs W [.ref i] us → ∃ a, us = [.ref a] ∧ ∀ (Q' : Bool → Value → Prop), wpAny fx.M fx.A.in1 (pyIter (.ref a)) (fun it s₂ => ∃ I fp wr n P St tr, it = .ref I ∧ Walks fx.pg.prog fx.pg.w fx.A.in1 I fp wr n P St ∧ St 0 s₂.heap ∧ TruthOf fx.pg.prog fx.pg.w fx.A.in1 P tr ∧
      ((List.range n).all tr = bs.all id ∧ (List.range n).any tr = bs.any id) ∧ ∀ h' tk, (∀ b o, b ∉ wr → s₂.heap.get? b = some o → h'.get? b = some o) → Rep fx σ W { s₂ with heap := h', toks := tk }) (PX fx W X) s := by
    intro W s us R r
    cases r with
    | cons r₁ r =>
      cases r
      obtain ⟨a, xs, n, rfl, _, k1, k2⟩ := R.list_at ho r₁
      have ex := vrs_bools k2
      subst ex
      refine ⟨a, rfl, fun _ => wpAny_pyIter_list (listObj_isList k1) ?_⟩
      have hne : a ≠ s.heap.objs.size := Nat.ne_of_lt (Heap.lt_size k1)
      have len : (bs.map Value.bool).toArray.size = bs.length := by simp
      refine ⟨_, _, _, _, _, _, fun j => bs.getD j false, rfl, Walks.list hh s.heap.objs.size a hne (bs.map Value.bool).toArray, ⟨⟨_, Heap.get?_push_size _ rfl, rfl, rfl⟩, (listObj_isList k1).push _⟩, ?_, ?_, ?_⟩
      · intro j v s' Q' E' hP hQ
        have : v = .bool (bs.getD j false) := by
          rw [List.getElem?_toArray, List.getElem?_map] at hP
          cases e : bs[j]? with
          | none => rw [e] at hP; cases hP
          | some b => rw [e] at hP; cases hP; simp [List.getD, e]
        subst this
        exact wpAny_truthy_bool hQ
      · rw [len]
        constructor
        · rw [Bool.eq_iff_iff, List.all_eq_true, List.all_eq_true]
          constructor
          · intro h b hb
            obtain ⟨j, hj, rfl⟩ := List.getElem_of_mem hb
            have := h j (List.mem_range.mpr hj)
            simpa [List.getD, hj] using this
          · intro h j hj
            have hj' := List.mem_range.mp hj
            have := h bs[j] (List.getElem_mem hj')
            simpa [List.getD, hj'] using this
        · rw [Bool.eq_iff_iff, List.any_eq_true, List.any_eq_true]
          constructor
          · rintro ⟨j, hj, h⟩
            have hj' := List.mem_range.mp hj
            exact ⟨bs[j], List.getElem_mem hj', by simpa [List.getD, hj'] using h⟩
          · rintro ⟨b, hb, h⟩
            obtain ⟨j, hj, rfl⟩ := List.getElem_of_mem hb
            exact ⟨j, List.mem_range.mpr hj, by simpa [List.getD, hj] using h⟩
      · intro h' tk hk
        exact R.keep tk fun b o e => hk b o (by simp; exact Nat.ne_of_lt (Heap.lt_size e)) (Heap.get?_push_of_some _ e)
  constructor
  · intro h W s us R r
    obtain ⟨a, rfl, z⟩ := key W s us R r
    refine call_all_walk (wpAny_mono (z fun _ _ => True) ?_ fun _ _ x => x)
    rintro it s₂ ⟨I, fp, wr, n, P, St, tr, e, w1, w2, w3, ⟨w4, _⟩, w5⟩
    exact ⟨I, fp, wr, n, P, St, tr, e, w1, w2, w3, fun h' tk hk => by rw [w4]; exact .here (w5 h' tk hk) (.bool _) h⟩
  · intro h W s us R r
    obtain ⟨a, rfl, z⟩ := key W s us R r
    refine call_any_walk (wpAny_mono (z fun _ _ => True) ?_ fun _ _ x => x)
    rintro it s₂ ⟨I, fp, wr, n, P, St, tr, e, w1, w2, w3, ⟨_, w4⟩, w5⟩
    exact ⟨I, fp, wr, n, P, St, tr, e, w1, w2, w3, fun h' tk hk => by rw [w4]; exact .here (w5 h' tk hk) (.bool _) h⟩

/-! exceptions -/
abbrev veMro : List Value := [.type "ValueError", .type "Exception", .type "BaseException", .type "object"]
theorem evRaise (all : FxAll fx) (hq : fx.qt = true) {x : Str} {np cpos pos : Pos} {C : Addr} {e₀ : Expr} {rest : List Expr} {Q : Fl → St → Prop} (hg : fx.pg.gl x = some (.ref C)) (hgn : nsIn fx.pg.K mainGlobals x = some (some (.ref C))) (hcl : excIn fx.pg.K C veMro "ValueError.__new__" = true)
    (hk : fx.env.kindOf x = some .globalImplicit) (hd : (x == ("__debug__" : Str)) = false) (hs : (e₀ :: rest).all noStar = true)
    (h : EvEs fx X (e₀ :: rest) σ (fun vs σ₁ => vs.length ≤ sizeLine ∧ X (.ref C) σ₁)) : EvS fx X (.Raise (some (.Call (.Name x np) (e₀ :: rest) [] cpos)) none pos) σ Q := by
  intro W s R
  have O := own_of_in all.part (topRead_of all.top) hgn hcl
  obtain ⟨tl, N, nm, q, bs, hdct, sn, sub, ab, col, dd, k0, k1, k2, k3, k5, mN, hC, hN, hni, T⟩ := O.obj
  have hpl : (backTo cpos (starEach (e₀ :: rest) fx.env)).any (·.1) = false := star_any hs _ _
  rw [List.all_cons, Bool.and_eq_true] at hs
  have he := star_cons hs.1 rest fx.env
  refine wpAny_Raise_call_subU (C := C) (nm := nm) (q := q) (N := N) (bs := bs) (bm := tl) (hdct := hdct) (sn := sn) (sub := sub) (ab := ab) (col := col) (dd := dd) (k0 := k0) (k1 := k1) (k2 := k2) (k3 := k3) (k5 := k5)
    F.excBase_ValueError (by decide) F.excBase_ValueError (mN := mN) (T.hasType F.excBase_ValueError.hasBase) (all.ok.handled hq) hpl hni (all.glbAt x (.ref C) np hg hk s _ _ (all.stays R) ⟨rfl, ?_⟩ hd)
  have h' := h W s cpos R
  rw [he] at h' ⊢
  refine Calls.evalArgs_plain (wpAny_mono h' (fun us s₂ ⟨W₂, σ₂, vs, le₂, R₂, r₂, h₂, h₃⟩ => ?_) fun _ _ y => y)
  have st₂ := all.stays R₂
  exact ⟨rfl, r₂.length ▸ h₂, st₂ _ _ hC, hN.keeps st₂, T.keeps st₂, fun h'' e hx => ⟨e, .ref C, .made, W₂, σ₂, rfl, le₂, XRep.raise all R₂ hx, h₃⟩⟩

/-- the handlers of a try -/
def EvH (fx : Fx) (X : XP) (hs : List ExceptHandler) (cls : Value) (σ : St) (Q : Fl → St → Prop) : Prop :=
  ∀ e W s, XRep fx σ W e cls .fly s → wpAny fx.M fx.A (handleBy (.ref e) fx.env hs) (PF fx W Q) (PX fx W X) s
theorem evTry (all : FxAll fx) (hL : fx.env.locals = fx.L) {b : List Stmt} {h₀ : ExceptHandler} {hs : List ExceptHandler} {pos : Pos} {Xh : XP} {Q : Fl → St → Prop} (h : EvSs fx Xh b σ Q) (hh : ∀ cls σ', Xh cls σ' → EvH fx X (h₀ :: hs) cls σ' Q) : EvS fx X (.Try b (h₀ :: hs) [] [] pos) σ Q := by
  intro W s R
  refine wpAny_Try_except (wpAny_mono (h W s R) ?_ ?_)
  · refine fun f s₁ zz => zz.elim fun W₁ σ₁ fl le₁ R₁ r₁ h₁ => ?_
    cases r₁ with
    | next => exact wpAny_execs_nil ⟨W₁, σ₁, .next, le₁, R₁, .next, h₁⟩
    | brk => exact ⟨W₁, σ₁, .brk, le₁, R₁, .brk, h₁⟩
    | cont => exact ⟨W₁, σ₁, .cont, le₁, R₁, .cont, h₁⟩
    | ret r => exact ⟨W₁, σ₁, .ret _, le₁, R₁, .ret r, h₁⟩
  · rintro u s₁ ⟨e, cls, k, W₁, σ₁, rfl, le₁, x, hX⟩
    have ef := all.envf hL
    have hh' := hh cls σ₁ hX e W₁
    rw [ef] at hh' ⊢
    exact x.note all.frs all.ffr fun h₂ x₂ => x₂.land all.ffr fun h₃ x₃ => wpAny_mono (hh' _ x₃) (fun _ _ y => y.mono le₁ fun _ _ z => z) fun _ _ y => y.mono le₁ fun _ _ z => z

theorem XRep.ty {e : Addr} {cls : Value} {k : Kd} {M : Model} (x : XRep fx σ W e cls k s) : Looks M s.heap (typeOf (.ref e)) cls := by
  obtain ⟨_, g, m, news, B, c, f⟩ := x
  obtain ⟨oe, vs, h1, h2, h3⟩ := f.there
  have z : Looks M s.heap (typeOf (.ref e)) oe.cls := (Looks.ld h1).andThen .now
  exact h2 ▸ z

/-- the frame, while it handles an exception -/
abbrev fxH (fx : Fx) (e : Addr) : Fx := { fx with A := fx.A.mark (some (.ref e)), qt := false }
theorem fxH_all (all : FxAll fx) (e : Addr) : FxAll (fxH fx e) where
  ok := ⟨all.ok.kind, fun q => by cases q⟩
  locs := all.locs
  cex := all.cex
  cinj := all.cinj
  cdef := all.cdef
  scr := all.scr
  egl := all.egl
  ebu := all.ebu
  top := all.top
  part := all.part
  below := all.below
  dicts := all.dicts
  frs := all.frs
  ffr := all.ffr
  fkd := all.fkd
  depth := all.depth
  room := all.room
  mfn := all.mfn
  envf := all.envf

theorem Rep.toH {e : Addr} (R : Rep fx σ W s) : Rep (fxH fx e) σ W s := Rep.cast (fx := fx) (A := fx.A) (q := fx.qt) R
theorem Rep.ofH {e : Addr} (R : Rep (fxH fx e) σ W s) : Rep fx σ W s := Rep.cast (fx := fx) (A' := fx.A) (q' := fx.qt) R

theorem evH_hit1 (all : FxAll fx) {y n : Str} {p pos : Pos} {b₀ : Stmt} {suite : List Stmt} {rest : List ExceptHandler} {C : Addr} {c : Value} {Q : Fl → St → Prop} (hg : fx.pg.gl y = some c) (hk : fx.env.kindOf y = some .globalImplicit) (hd : (y == ("__debug__" : Str)) = false) (hx : exmOne fx.pg.K (.ref C) c = some true)
    (hL : fx.env.locals = fx.L) (hn : fx.env.kindOf n = some .local)
    (h : ∀ e, EvSs (fxH fx e) X0 (b₀ :: suite) ⟨setN σ.loc n (.ref σ.hp.length), σ.hp ++ [.exn C]⟩ (fun fl σ' => Q fl ⟨fun z => if z = n then none else σ'.loc z, σ'.hp⟩)) : EvH fx X (.ExceptHandler (some (.Name y p)) (some n) (b₀ :: suite) pos :: rest) (.ref C) σ Q := by
  intro e W s x
  refine wpAny_handleBy_cons (codeAny_handlers_test (all.glbAt y c p hg hk s _ _ x.stays ((exm_one (all.part.keeps x.stays) x.ty hx).here ?_) hd)) (by intro q; cases q)
  refine codeAny_handlers_suite_as (x.again all.ffr fun h₁ x₁ => ?_)
  obtain ⟨R₁, v₁⟩ := (x₁.catch all).2 C rfl
  have le₁ : W.le ⟨W.al ++ [e], W.tp, W.sc⟩ := ⟨List.prefix_append _ _, fun _ h => h, rfl⟩
  refine storeVar (fxH_all all e) (x := n) ⟨hL, .inl hn⟩ R₁.toH v₁ fun h₂ tk₂ R₂ => ?_
  refine wpAny_mono (h e _ _ R₂) ?_ fun _ _ y => y.never.elim
  refine fun f s₃ zz => zz.elim fun W₃ σ₃ fl le₃ R₃ r₃ h₃ => ?_
  have R₃' := R₃.ofH
  obtain ⟨_, g, m, news, G, F, N, Co⟩ := id R₃'
  refine wpAny_nameGoes_keeps hn (by rw [hL]; exact F.ns) (by rw [all.ok.kind]; rfl) fun h₄ v hn₄ hs₄ => ?_
  rw [hL] at hn₄ hs₄
  refine ⟨W₃, _, fl, le₁.trans le₃, R₃'.delLoc (x := n) (all.mfn hL) hn _ (fun z hz m' hm' => ?_) hn₄ hs₄, r₃, h₃⟩
  simp only [hz, if_false]
  obtain ⟨o, es, ep, a1, a2, _, a4⟩ := F.ns
  obtain ⟨o', es', ep', b1, b2, _, b4⟩ := hm'
  rw [a1] at b1; cases b1
  rw [a2] at b2; cases b2
  rw [← a4, ← b4]
end
end Mine

set_option autoImplicit false
namespace Mine
open PySem PySem.W PySem.Calls PySem.Spec PyProof.Rows

/-! the rules by which a law is walked -/
structure Cx where
  pg : Pg
  scope : Scope
  ns : List Int
  lev : Nat
  qt : Bool

def okN (x : Str) : Bool := !(x == ("__debug__" : Str)) && !(x == ("__classdict__" : Str))
def relab (sc : Scope) : Scope := { sc with names := sc.names.map fun (n, k) => if k == .free then (n, .cell) else (n, k) }
def compOkB (sc csc : Scope) : Bool := csc.kind == .function && csc.names.all fun y => y.2 != .cell && (y.2 != .local || csc.names.lookup y.1 == some .local) && (y.2 != .free || (csc.names.lookup y.1 == some .free && sc.names.lookup y.1 == some .cell))
def varOk (sc : Scope) (x : Str) : Bool := sc.names.lookup x == some .local || sc.names.lookup x == some .cell
def tgtOk (f : Str → Bool) : Expr → Bool
  | .Name x _ => f x
  | .Tuple es _ _ => es.all fun e => match e with | .Name x _ => f x | _ => false
  | _ => false
def plainT : Expr → Bool
  | .UnaryOp .. | .BoolOp .. | .IfExp .. | .Compare .. => false
  | _ => true
def notSet : Expr → Bool
  | .Set .. => false
  | _ => true


def nmsOk (sc : Scope) : Bool := sc.names.all fun y => okN y.1

structure FxAt (c : Cx) (fx : Fx) : Prop where
  all : FxAll fx
  pg : fx.pg = c.pg
  sc : fx.env.scope = c.scope
  ns : fx.ns = c.ns
  lev : c.lev ≤ fx.lev
  qt : c.qt = true → fx.qt = true
  nk : nmsOk c.scope = true

theorem FxAt.kind {c : Cx} {fx : Fx} (a : FxAt c fx) (x : Str) : fx.env.kindOf x = c.scope.names.lookup x := by
  show fx.env.scope.names.lookup x = _
  rw [a.sc]
theorem FxAt.push {c : Cx} {fx : Fx} (F : FxAt c fx) {ps : List (Addr × Obj)} (a : FxAll (fx.pushL ps)) : FxAt c (fx.pushL ps) := ⟨a, F.pg, F.sc, F.ns, F.lev, F.qt, F.nk⟩
theorem FxAt.units {c : Cx} {fx : Fx} (F : FxAt c fx) : fx.A.units + 64 < cLine := by have := F.all.units; omega
theorem okN_of {x : Str} (h : okN x = true) : (x == ("__debug__" : Str)) = false ∧ (x == ("__classdict__" : Str)) = false := by
  unfold okN at h
  rw [Bool.and_eq_true, Bool.not_eq_true', Bool.not_eq_true'] at h
  exact h

theorem tgt_ok {f : Str → Bool} {t : Expr} {v : V} {bs : List (Str × V)} (h : tgtOk f t = true) (e : tgtV t v = some bs) : ∀ b ∈ bs, f b.1 = true := by
  unfold tgtV at e
  split at e
  · cases e
    intro b hb
    rw [List.mem_singleton.mp hb]
    exact h
  · rename_i es n p
    split at e
    · rename_i vs
      split at e
      · rename_i hlen
        have h' : (es.all fun e => match e with | .Name x _ => f x | _ => false) = true := h
        clear h
        revert vs bs
        induction es with
        | nil =>
          intro bs vs hlen e
          simp at e
          subst e
          exact fun b hb => by cases hb
        | cons e0 es ih =>
          intro bs vs hlen e
          cases vs with
          | nil => simp at hlen
          | cons v vs =>
            rw [List.zip_cons_cons, List.mapM_cons] at e
            rw [List.all_cons, Bool.and_eq_true] at h'
            cases e0 with
            | Name x p =>
              cases hr : ((es.zip vs).mapM nmV) with
              | none => rw [hr] at e; simp [nmV] at e
              | some bs' =>
                rw [hr] at e
                simp [nmV] at e
                subst e
                intro b hb
                rcases List.mem_cons.mp hb with rfl | hb
                · exact h'.1
                · exact ih h'.2 vs (by simpa using hlen) hr b hb
            | _ => simp [nmV] at e
      · cases e
    · cases e
  · cases e

theorem compOk_of {env : Env} {sc csc : Scope} (hs : env.scope = sc) (h : compOkB sc csc = true) : CompOk env csc := by
  unfold compOkB at h
  rw [Bool.and_eq_true, List.all_eq_true] at h
  obtain ⟨h1, h2⟩ := h
  have h3 : ∀ y ∈ csc.names, y.2 ≠ .cell ∧ (y.2 = .local → csc.names.lookup y.1 = some .local) ∧ (y.2 = .free → csc.names.lookup y.1 = some .free ∧ sc.names.lookup y.1 = some .cell) := fun y hy => by
    have := h2 y hy
    simp only [Bool.and_eq_true, Bool.or_eq_true, bne_iff_ne, beq_iff_eq, ne_eq] at this
    exact ⟨this.1.1, fun q => this.1.2.resolve_left fun z => z q, fun q => this.2.resolve_left fun z => z q⟩
  exact ⟨by simpa using h1, fun y hy => (h3 y hy).1, fun y hy => (h3 y hy).2.1, fun y hy q => ((h3 y hy).2.2 q).1, fun n hn => by
    show env.scope.names.lookup n = some .cell
    rw [hs]
    exact ((h3 _ (lookup_mem hn)).2.2 rfl).2⟩

theorem relabel_eq {env : Env} {csc : Scope} (co : CompOk env csc) (hk : env.scope.kind = .function) : relabel csc env = relab csc := by
  unfold relabel relab
  congr 1
  refine List.map_congr_left fun y hy => ?_
  obtain ⟨n, k⟩ := y
  dsimp only
  by_cases q : k = .free
  · subst q
    have := co.free n (co.frees _ hy rfl)
    simp [hk, this]
  · have : (k == NameKind.free) = false := by simpa using q
    simp [this]

theorem folded_of {iter : Expr} (h : notSet iter = true) (env : Env) (x : Value) : foldedSetIterable iter env x = pure x := by
  cases iter <;> first | rfl | cases h


theorem nms_at {sc : Scope} {x : Str} {k : NameKind} (h : nmsOk sc = true) (e : sc.names.lookup x = some k) : okN x = true := List.all_eq_true.mp h _ (lookup_mem e)
theorem FxAt.name {c : Cx} {fx : Fx} (F : FxAt c fx) {x : Str} {k : NameKind} (e : c.scope.names.lookup x = some k) : (x == ("__debug__" : Str)) = false ∧ (x == ("__classdict__" : Str)) = false := okN_of (nms_at F.nk e)
theorem FxAt.okName {c : Cx} {fx : Fx} (F : FxAt c fx) {σ : St} {W : Wd} {s : Shared} (R : Rep fx σ W s) {x : Str} {v : V} (hv : σ.loc x = some v) : (x == ("__debug__" : Str)) = false ∧ (x == ("__classdict__" : Str)) = false := by
  refine R.elim fun _ g m news G Fr N C => ?_
  obtain ⟨u, _, n⟩ := C.loc x v hv
  cases n with
  | loc a _ _ => exact F.name (by rw [← F.kind]; exact a)
  | comp a _ _ => exact F.name (by rw [← F.kind]; exact a)
  | cell a _ _ _ => rcases a with a | a <;> exact F.name (by rw [← F.kind]; exact a)
section
variable {fx : Fx} {X : XP} {σ : St}
theorem CmpT.mono {op : CmpOp} {a b : V} {Q Q' : V → St → Prop} (h : CmpT fx X op a b σ Q) (hq : ∀ v σ', Q v σ' → Q' v σ') : CmpT fx X op a b σ Q' :=
  fun W s u₁ u₂ R r₁ r₂ => wpAny_mono (h W s u₁ u₂ R r₁ r₂) (fun _ _ x => x.mono (.refl _) hq) fun _ _ x => x
theorem TruT.mono {a : V} {Q Q' : Bool → St → Prop} (h : TruT fx X a σ Q) (hq : ∀ v σ', Q v σ' → Q' v σ') : TruT fx X a σ Q' :=
  fun W s u R r => wpAny_mono (h W s u R r) (fun _ _ x => x.mono (.refl _) hq) fun _ _ x => x
theorem EvO.mono' {o : Option Expr} {Q Q' : Option Int → St → Prop} (h : EvO fx X o σ Q) (hq : ∀ v σ', Q v σ' → Q' v σ') : EvO fx X o σ Q' := by
  cases o with
  | none => exact hq _ _ h
  | some e => exact EvE.mono (fx := fx) (X := X) h fun v σ' ⟨k, a, b⟩ => ⟨k, a, hq _ _ b⟩
end
theorem plainT_of {e : Expr} (h : plainT e = true) (env : Env) (whole : Sem Value) : isTrue e env whole = (do let v ← whole; standAt e.pos; holding [v] (truthy v)) := by
  cases e <;> first | rfl | cases h


theorem isVar_of {c : Cx} {fx : Fx} (F : FxAt c fx) (hL : fx.env.locals = fx.L) {x : Str} (h : varOk c.scope x = true) : isVar fx x := by
  refine ⟨hL, ?_⟩
  rw [F.kind]
  simpa [varOk] using h

abbrev Lo := Str → Option V
abbrev KV := V → Lo → List O → Prop
abbrev KB := Bool → Lo → List O → Prop
abbrev KF := Fl → Lo → List O → Prop
abbrev KI := List V → (St → Prop) → Lo → List O → Prop
@[irreducible] def E (c : Cx) (X : XP) (e : Expr) (l : Lo) (hp : List O) (K : KV) : Prop := ∀ fx, FxAt c fx → EvE fx X e ⟨l, hp⟩ fun v σ => K v σ.loc σ.hp
@[irreducible] def Es (c : Cx) (X : XP) (es : List Expr) (l : Lo) (hp : List O) (K : List V → Lo → List O → Prop) : Prop := ∀ fx, FxAt c fx → EvEs fx X es ⟨l, hp⟩ fun v σ => K v σ.loc σ.hp
@[irreducible] def EL (c : Cx) (X : XP) (op : BoolOp) (es : List Expr) (l : Lo) (hp : List O) (K : KV) : Prop := ∀ fx, FxAt c fx → ∀ pos, EvE fx X (.BoolOp op es pos) ⟨l, hp⟩ fun v σ => K v σ.loc σ.hp
@[irreducible] def B (c : Cx) (X : XP) (e : Expr) (l : Lo) (hp : List O) (K : KB) : Prop := ∀ fx, FxAt c fx → EvB fx X e ⟨l, hp⟩ fun v σ => K v σ.loc σ.hp
@[irreducible] def BL (c : Cx) (X : XP) (op : BoolOp) (es : List Expr) (l : Lo) (hp : List O) (K : KB) : Prop := ∀ fx, FxAt c fx → ∀ pos, EvB fx X (.BoolOp op es pos) ⟨l, hp⟩ fun v σ => K v σ.loc σ.hp
@[irreducible] def I (c : Cx) (X : XP) (e : Expr) (l : Lo) (hp : List O) (P : KI) : Prop := ∀ fx, FxAt c fx → IterT fx X e ⟨l, hp⟩ fun its need σ => P its need σ.loc σ.hp
@[irreducible] def S (c : Cx) (X : XP) (st : Stmt) (l : Lo) (hp : List O) (K : KF) : Prop := ∀ fx, FxAt c fx → fx.env.locals = fx.L → EvS fx X st ⟨l, hp⟩ fun v σ => K v σ.loc σ.hp
@[irreducible] def Ss (c : Cx) (X : XP) (ss : List Stmt) (l : Lo) (hp : List O) (K : KF) : Prop := ∀ fx, FxAt c fx → fx.env.locals = fx.L → EvSs fx X ss ⟨l, hp⟩ fun v σ => K v σ.loc σ.hp
@[irreducible] def Bin (c : Cx) (X : XP) (op : Operator) (a b : V) (l : Lo) (hp : List O) (K : KV) : Prop := ∀ fx, FxAt c fx → BinT fx X op a b ⟨l, hp⟩ fun v σ => K v σ.loc σ.hp
@[irreducible] def Un (c : Cx) (X : XP) (op : UnaryOp) (a : V) (l : Lo) (hp : List O) (K : KV) : Prop := ∀ fx, FxAt c fx → UnT fx X op a ⟨l, hp⟩ fun v σ => K v σ.loc σ.hp
@[irreducible] def Cmp (c : Cx) (X : XP) (op : CmpOp) (a b : V) (l : Lo) (hp : List O) (K : KV) : Prop := ∀ fx, FxAt c fx → CmpT fx X op a b ⟨l, hp⟩ fun v σ => K v σ.loc σ.hp
@[irreducible] def Tru (c : Cx) (X : XP) (a : V) (l : Lo) (hp : List O) (K : KB) : Prop := ∀ fx, FxAt c fx → TruT fx X a ⟨l, hp⟩ fun v σ => K v σ.loc σ.hp
@[irreducible] def CB (c : Cx) (X : XP) (id : String) (vs : List V) (l : Lo) (hp : List O) (K : KV) : Prop := ∀ fx, FxAt c fx → CallT fx X (.builtin id) vs ⟨l, hp⟩ fun v σ => K v σ.loc σ.hp
@[irreducible] def CT (c : Cx) (X : XP) (T : String) (vs : List V) (l : Lo) (hp : List O) (K : KV) : Prop := ∀ fx, FxAt c fx → CallT fx X (.type T) vs ⟨l, hp⟩ fun v σ => K v σ.loc σ.hp
@[irreducible] def Sub (c : Cx) (X : XP) (o i : V) (l : Lo) (hp : List O) (K : KV) : Prop := ∀ fx, FxAt c fx → ∀ value slice, notSlice slice = true → SubT fx X value slice o i ⟨l, hp⟩ fun v σ => K v σ.loc σ.hp
@[irreducible] def Srv (c : Cx) (v : V) (l : Lo) (hp : List O) (P : KI) : Prop := ∀ fx, FxAt c fx → SrvT fx v ⟨l, hp⟩ fun its need σ => P its need σ.loc σ.hp
@[irreducible] def Opt (c : Cx) (X : XP) (o : Option Expr) (l : Lo) (hp : List O) (K : Option Int → Lo → List O → Prop) : Prop := ∀ fx, FxAt c fx → EvO fx X o ⟨l, hp⟩ fun v σ => K v σ.loc σ.hp
@[irreducible] def Slc (o : V) (a b : Option Int) (l : Lo) (hp : List O) (K : KV) : Prop := SliceV o a b ⟨l, hp⟩ fun v σ => K v σ.loc σ.hp
@[irreducible] def Sz (vs : List V) (P : Prop) : Prop := vs.length ≤ sizeLine ∧ P
@[irreducible] def If (b : Bool) (P Q : Prop) : Prop := if b then P else Q
@[irreducible] def Lst (ov : V) (hp : List O) (P : Nat → Prop) : Prop := ∃ i vs, ov = .ref i ∧ hp[i]? = some (.list vs) ∧ P i
@[irreducible] def Rng (vs : List V) (P : List V → Prop) : Prop := RngP vs P
@[irreducible] def Hd (c : Cx) (X : XP) (hs : List ExceptHandler) (cls : Value) (l : Lo) (hp : List O) (K : KF) : Prop := ∀ fx, FxAt c fx → fx.env.locals = fx.L → EvH fx X hs cls ⟨l, hp⟩ fun v σ => K v σ.loc σ.hp
/-- what is asked at the side of a step -/
structure Side (P : Prop) : Prop where
  h : P
structure CxIs (c : Cx) (pg : Pg) (sc : Scope) (ns : List Int) (lev : Nat) (qt : Bool) : Prop where
  eq : c = ⟨pg, sc, ns, lev, qt⟩
section
variable {c : Cx} {X : XP} {l : Lo} {hp : List O} {K : KV} {p q r : Pos} {pg : Pg} {sc : Scope} {ns : List Int} {lev : Nat} {qt : Bool}

theorem e_int {i : Int} {k : Nat} (h : K (.int i) l hp) : E c X (.Constant (.int i) k p) l hp K := by unfold E; exact fun _ _ => evConstInt h
theorem e_str {i : Str} {k : Nat} (h : K (.str i) l hp) : E c X (.Constant (.str i) k p) l hp K := by unfold E; exact fun _ _ => evConstStr h
theorem e_bool {i : Bool} {k : Nat} (h : K (.bool i) l hp) : E c X (.Constant (.bool i) k p) l hp K := by unfold E; exact fun _ _ => evConstBool h
theorem e_none {k : Nat} (h : K .none l hp) : E c X (.Constant .none k p) l hp K := by unfold E; exact fun _ _ => evConstNone h
theorem e_name {x : Str} {v : V} (e : l x = some v) (h : K v l hp) : E c X (.Name x p) l hp K := by
  unfold E
  exact fun fx F W s R => evName F.all.ok e h (F.okName R e).1 (F.okName R e).2 W s R
theorem e_glob {x : Str} {v : Value} (hc : CxIs c pg sc ns lev qt) (k : sc.names.lookup x = some .globalImplicit) (g : pg.gl x = some v) (h : K (gV v) l hp) : E c X (.Name x p) l hp K := by
  obtain ⟨rfl⟩ := hc
  unfold E
  exact fun fx F => evGlob F.all (by rw [F.pg]; exact g) (by rw [F.kind]; exact k) (F.name k).1 h
theorem e_bin {a b : Expr} {op : Operator} (h : E c X a l hp fun v l hp => E c X b l hp fun w l hp => Bin c X op v w l hp K) : E c X (.BinOp a op b p) l hp K := by
  unfold E Bin at *
  exact fun fx F => evBin ((h fx F).mono fun v σ h₁ => (h₁ fx F).mono fun w σ' h₂ => h₂ fx F)
theorem e_un {a : Expr} {op : UnaryOp} (h : E c X a l hp fun v l hp => Un c X op v l hp K) : E c X (.UnaryOp op a p) l hp K := by
  unfold E Un at *
  exact fun fx F => evUn ((h fx F).mono fun v σ h₁ => h₁ fx F)
theorem e_boolop {op : BoolOp} {vs : List Expr} (h : EL c X op vs l hp K) : E c X (.BoolOp op vs p) l hp K := by
  unfold E EL at *
  exact fun fx F => h fx F p
theorem el_one {op : BoolOp} {e : Expr} (h : E c X e l hp K) : EL c X op [e] l hp K := by
  unfold E EL at *
  exact fun fx F _ => evBoolOne (h fx F)
theorem el_and {e e' : Expr} {r : List Expr} (h : E c X e l hp fun v l hp => Tru c X v l hp fun b l hp => If b (EL c X .And (e' :: r) l hp K) (K v l hp)) : EL c X .And (e :: e' :: r) l hp K := by
  unfold E EL Tru If at *
  refine fun fx F pos => evAnd ((h fx F).mono fun v σ h₁ => (h₁ fx F).mono fun b σ' h₂ => ?_)
  cases b with
  | true => exact h₂ fx F pos
  | false => exact h₂
theorem e_cmp {a b : Expr} {op : CmpOp} (hm : behindInMarks op b = false) (h : E c X a l hp fun v l hp => E c X b l hp fun w l hp => Cmp c X op v w l hp K) : E c X (.Compare a [op] [b] p) l hp K := by
  unfold E Cmp at *
  exact fun fx F => evCmp1 ((h fx F).mono fun v σ h₁ => (h₁ fx F).mono fun w σ' h₂ => h₂ fx F) hm
theorem e_cmp2 {a b d : Expr} {op₁ op₂ : CmpOp} (hm : lastMarks [op₁, op₂] [b, d] = false) (h : E c X a l hp fun v l hp => E c X b l hp fun w l hp => Cmp c X op₁ v w l hp fun r l hp => Tru c X r l hp fun t l hp => If t (E c X d l hp fun f l hp => Cmp c X op₂ w f l hp K) (K r l hp)) :
    E c X (.Compare a [op₁, op₂] [b, d] p) l hp K := by
  unfold E Cmp Tru If at *
  refine fun fx F => evCmp2 ((h fx F).mono fun v σ h₁ => (h₁ fx F).mono fun w σ' h₂ => (h₂ fx F).mono fun r σ'' h₃ => (h₃ fx F).mono fun t σ₄ h₄ => ?_) hm
  cases t with
  | true => exact (h₄ fx F).mono fun f σ₅ h₅ => h₅ fx F
  | false => exact h₄
theorem e_callB {f : Str} {a : Expr} {args : List Expr} {id : String} (hc : CxIs c pg sc ns lev qt) (g : pg.gl f = some (.builtin id)) (k : sc.names.lookup f = some .globalImplicit) (st : (a :: args).all noStar = true) (h : Es c X (a :: args) l hp fun vs l hp => CB c X id vs l hp K) : E c X (.Call (.Name f q) (a :: args) [] p) l hp K := by
  obtain ⟨rfl⟩ := hc
  unfold E
  unfold Es CB at h
  exact fun fx F => evCallB F.all (by rw [F.pg]; exact g) (by rw [F.kind]; exact k) (F.name k).1 st ((h fx F).mono fun vs σ h₁ => h₁ fx F)
theorem e_callT {f : Str} {a : Expr} {args : List Expr} {T : String} (hc : CxIs c pg sc ns lev qt) (g : pg.gl f = some (.type T)) (k : sc.names.lookup f = some .globalImplicit) (st : (a :: args).all noStar = true) (h : Es c X (a :: args) l hp fun vs l hp => CT c X T vs l hp K) : E c X (.Call (.Name f q) (a :: args) [] p) l hp K := by
  obtain ⟨rfl⟩ := hc
  unfold E
  unfold Es CT at h
  exact fun fx F => evCallTy F.all (by rw [F.pg]; exact g) (by rw [F.kind]; exact k) (F.name k).1 st ((h fx F).mono fun vs σ h₁ => h₁ fx F)
theorem e_callF {f : Str} {a : Expr} {args : List Expr} {d : Addr} (hc : CxIs c pg sc ns lev qt) (g : pg.gl f = some (.ref d)) (i : fnIn pg.K d = true) (k : sc.names.lookup f = some .globalImplicit) (st : (a :: args).all noStar = true) (h : Es c X (a :: args) l hp fun vs l hp => CallOK pg lev qt ns d vs hp (fun d hp' => X d ⟨l, hp'⟩) (fun v hp' => K v l hp')) : E c X (.Call (.Name f q) (a :: args) [] p) l hp K := by
  obtain ⟨rfl⟩ := hc
  unfold E
  unfold Es at h
  exact fun fx F => evCallF F.all (by rw [F.pg]; exact g) (by rw [F.kind]; exact k) (F.name k).1 (by rw [F.pg]; exact i) st ((h fx F).mono fun vs σ h₁ => callT_of (qt := qt) F.all F.lev F.qt (by rw [F.pg, F.ns]; exact h₁))
theorem lst_ref {i : Nat} {vs : List V} {P : Nat → Prop} (e : hp[i]? = some (.list vs)) (h : P i) : Lst (.ref i) hp P := by
  unfold Lst
  exact ⟨i, vs, rfl, e, h⟩
theorem e_append {o a : Expr} (hb : baseOk o = true) (ha : [a].all noStar = true) (hl : (q.endLine == p.line) = true) (h : E c X o l hp fun ov l₁ hp₁ => Lst ov hp₁ fun i => Es c X [a] l₁ hp₁ fun vs l hp => CB c X "list.append" (.ref i :: vs) l hp K) : E c X (.Call (.Attribute o "append" q) [a] [] p) l hp K := by
  unfold E Lst Es CB at *
  refine fun fx F => evMeth hb ha (by simp) hl ((h fx F).mono fun ov σ h₁ => ?_)
  obtain ⟨i, vs, rfl, e, h₂⟩ := h₁
  exact ⟨_, getM_list e PySem.F.slot_list_append PySem.F.type_list_append, (h₂ fx F).mono fun vs σ h₃ => h₃ fx F⟩
theorem e_sub {a b : Expr} (nsl : notSlice b = true) (h : E c X a l hp fun v l hp => E c X b l hp fun w l hp => Sub c X v w l hp K) : E c X (.Subscript a b p) l hp K := by
  unfold E Sub at *
  exact fun fx F => evSub ((h fx F).mono fun v σ h₁ => (h₁ fx F).mono fun w σ' h₂ => h₂ fx F a b nsl)
theorem e_slice {x : Str} {lo hi : Option Expr} (h : E c X (.Name x q) l hp fun o l hp => Opt c X lo l hp fun a l hp => Opt c X hi l hp fun b l hp => Slc o a b l hp K) : E c X (.Subscript (.Name x q) (.Slice lo hi none r) p) l hp K := by
  unfold E Opt Slc at *
  exact fun fx F => evSlice ((h fx F).mono fun o σ h₁ => (h₁ fx F).mono' fun a σ' h₂ => (h₂ fx F).mono' fun b σ'' h₃ => h₃)
theorem opt_none {K : Option Int → Lo → List O → Prop} (h : K none l hp) : Opt c X none l hp K := by unfold Opt; exact fun _ _ => h
theorem opt_some {e : Expr} {K : Option Int → Lo → List O → Prop} (h : E c X e l hp fun v l hp => ∃ k, v = .int k ∧ K (some k) l hp) : Opt c X (some e) l hp K := by
  unfold Opt
  unfold E at h
  exact fun fx F => h fx F
theorem slc_ref {i : Nat} {vs : List V} {a b : Option Int} (e : hp[i]? = some (.list vs)) (s : Side (vs.length ≤ sizeLine)) (h : K (.ref hp.length) l (hp ++ [.list (pickV vs a b)])) : Slc (.ref i) a b l hp K := by
  unfold Slc
  exact ⟨i, vs, rfl, ⟨e, s.h⟩, h⟩
theorem sz {vs : List V} {P : Prop} (s : Nat.ble vs.length 1000 = true) (h : P) : Sz vs P := by
  unfold Sz
  exact ⟨Nat.le_trans (Nat.le_of_ble_eq_true s) (by rw [sizeLine_eq]; decide), h⟩
theorem e_list {es : List Expr} (h : Es c X es l hp fun vs l hp => Sz vs (K (.ref hp.length) l (hp ++ [.list vs]))) : E c X (.List es p) l hp K := by
  unfold E
  unfold Es Sz at h
  exact fun fx F => evList (h fx F)
theorem es_nil {K : List V → Lo → List O → Prop} (h : K [] l hp) : Es c X [] l hp K := by unfold Es; exact fun _ _ => evEs_nil h
theorem es_cons {K : List V → Lo → List O → Prop} {e : Expr} {r : List Expr} (s : noStar e = true) (h : E c X e l hp fun v l hp => Es c X r l hp fun vs l hp => K (v :: vs) l hp) : Es c X (e :: r) l hp K := by
  unfold E Es at *
  exact fun fx F => evEs_cons ((h fx F).mono fun v σ h₁ => h₁ fx F) (star_cons s _)

theorem bin_add {x y : Int} (h : K (.int (x + y)) l hp) : Bin c X .Add (.int x) (.int y) l hp K := by unfold Bin; exact fun _ _ => bin_addT h
theorem bin_sub {x y : Int} (h : K (.int (x - y)) l hp) : Bin c X .Sub (.int x) (.int y) l hp K := by unfold Bin; exact fun _ _ => bin_subT h
theorem bin_mul {x y : Int} (s : Side (x.natAbs < 2 ^ 64 ∨ y.natAbs < 2 ^ 64)) (h : K (.int (x * y)) l hp) : Bin c X .Mult (.int x) (.int y) l hp K := by unfold Bin; exact fun _ _ => bin_mulT s.h h
theorem bin_mod {x y : Int} (s : Side (0 < y)) (h : K (.int (x % y)) l hp) : Bin c X .Mod (.int x) (.int y) l hp K := by unfold Bin; exact fun _ _ => bin_modT s.h h
theorem bin_div {x y : Int} (s : Side (0 < y ∧ y < 2 ^ 30)) (h : K (.int (x / y)) l hp) : Bin c X .FloorDiv (.int x) (.int y) l hp K := by unfold Bin; exact fun _ _ => bin_divT s.h.1 s.h.2 h
theorem bin_pow {x y : Int} (s : Side (0 ≤ y ∧ y ≤ 1000000 ∧ x.natAbs < 2 ^ 64)) (h : K (.int (x ^ y.toNat)) l hp) : Bin c X .Pow (.int x) (.int y) l hp K := by unfold Bin; exact fun _ _ => bin_powT s.h h
theorem bin_pow18 (h : K (.int 1000000000000000000) l hp) : Bin c X .Pow (.int 10) (.int 18) l hp K := bin_pow ⟨by decide⟩ h
theorem bin_lists {i j : Nat} {vs ws : List V} (e : hp[i]? = some (.list vs)) (e' : hp[j]? = some (.list ws)) (s : Side (vs.length + ws.length ≤ sizeLine)) (h : K (.ref hp.length) l (hp ++ [.list (vs ++ ws)])) : Bin c X .Add (.ref i) (.ref j) l hp K := by unfold Bin; exact fun _ _ => bin_listsT e e' s.h h
theorem un_not {v : V} (h : Tru c X v l hp fun b l hp => K (.bool (!b)) l hp) : Un c X .Not v l hp K := by unfold Un; unfold Tru at h; exact fun fx F => un_notT (h fx F)
theorem un_neg {x : Int} (h : K (.int (-x)) l hp) : Un c X .USub (.int x) l hp K := by unfold Un; exact fun _ _ => un_negT h
theorem cmp_lt {x y : Int} (h : K (.bool (decide (x < y))) l hp) : Cmp c X .Lt (.int x) (.int y) l hp K := by unfold Cmp; exact fun _ _ => cmp_ltT h
theorem cmp_gt {x y : Int} (h : K (.bool (decide (y < x))) l hp) : Cmp c X .Gt (.int x) (.int y) l hp K := by unfold Cmp; exact fun _ _ => cmp_gtT h
theorem cmp_le {x y : Int} (h : K (.bool (decide (x ≤ y))) l hp) : Cmp c X .LtE (.int x) (.int y) l hp K := by unfold Cmp; exact fun _ _ => cmp_leT h
theorem cmp_deq {x y : V} {dx dy : PyData} (h1 : Dat hp x dx) (h2 : Dat hp y dy) (h3 : PySem.SeqAt.shaped dx = true) (h4 : PySem.SeqAt.shaped dy = true) (h : K (.bool (PyData.eqv dx dy)) l hp) : Cmp c X .Eq x y l hp K := by unfold Cmp; exact fun fx F => cmp_eqT F.units h1 h2 h3 h4 h
theorem cmp_dne {x y : V} {dx dy : PyData} (h1 : Dat hp x dx) (h2 : Dat hp y dy) (h3 : PySem.SeqAt.shaped dx = true) (h4 : PySem.SeqAt.shaped dy = true) (h : K (.bool (!PyData.eqv dx dy)) l hp) : Cmp c X .NotEq x y l hp K := by unfold Cmp; exact fun fx F => cmp_neT F.units h1 h2 h3 h4 h
theorem eqv_int (x y : Int) : PyData.eqv (.int x) (.int y) = decide (x = y) := by simp [PyData.eqv]; rfl
theorem cmp_eq {x y : Int} (h : K (.bool (decide (x = y))) l hp) : Cmp c X .Eq (.int x) (.int y) l hp K := cmp_deq (.int x) (.int y) rfl rfl (by rw [eqv_int]; exact h)
theorem tru_bool {b : Bool} {K : KB} (h : K b l hp) : Tru c X (.bool b) l hp K := by unfold Tru; exact fun _ _ => tru_boolT h
theorem cb_len_ref {i : Nat} {vs : List V} (e : hp[i]? = some (.list vs)) (s : Side (vs.length < 2 ^ 63)) (h : K (.int vs.length) l hp) : CB c X "len" [.ref i] l hp K := by unfold CB; exact fun _ _ => len_refT e s.h h
theorem cb_len_scr (hc : CxIs c pg sc ns lev qt) (h : K (.int ns.length) l hp) : CB c X "len" [.scr] l hp K := by
  obtain ⟨rfl⟩ := hc
  unfold CB
  exact fun fx F => len_scrT F.all (by rw [F.ns]; exact h)
theorem cb_abs {a : Int} (h : K (.int (if a < 0 then -a else a)) l hp) : CB c X "abs" [.int a] l hp K := by unfold CB; exact fun _ _ => abs_ok h
theorem cb_all {i : Nat} {bs : List Bool} (hc : CxIs c pg sc ns lev true) (e : hp[i]? = some (.list (bs.map .bool))) (h : K (.bool (bs.all id)) l hp) : CB c X "all" [.ref i] l hp K := by
  obtain ⟨rfl⟩ := hc
  unfold CB
  exact fun fx F => (all_any F.all (F.qt rfl) e).1 h
theorem isi_ii {a : Int} (h : K (.bool true) l hp) : CB c X "isinstance" [.int a, .glob (.type "int")] l hp K := by unfold CB; exact fun _ _ => isi_of (fun W s u Q E R r q => by cases r; exact IsiPair.int_int (q _)) h
theorem isi_ib {a : Int} (h : K (.bool false) l hp) : CB c X "isinstance" [.int a, .glob (.type "bool")] l hp K := by unfold CB; exact fun _ _ => isi_of (fun W s u Q E R r q => by cases r; exact IsiPair.int_bool (q _)) h
theorem isi_bi {a : Bool} (h : K (.bool true) l hp) : CB c X "isinstance" [.bool a, .glob (.type "int")] l hp K := by unfold CB; exact fun _ _ => isi_of (fun W s u Q E R r q => by cases r; exact IsiPair.bool_int (q _)) h
theorem isi_bb {a : Bool} (h : K (.bool true) l hp) : CB c X "isinstance" [.bool a, .glob (.type "bool")] l hp K := by unfold CB; exact fun _ _ => isi_of (fun W s u Q E R r q => by cases r; exact IsiPair.bool_bool (q _)) h
theorem isi_ni (h : K (.bool false) l hp) : CB c X "isinstance" [.none, .glob (.type "int")] l hp K := by unfold CB; exact fun _ _ => isi_of (fun W s u Q E R r q => by cases r; exact IsiPair.NoneType_int (q _)) h
theorem isi_si {a : Str} (h : K (.bool false) l hp) : CB c X "isinstance" [.str a, .glob (.type "int")] l hp K := by unfold CB; exact fun _ _ => isi_of (fun W s u Q E R r q => by cases r; exact IsiPair.str_int (q _)) h
theorem isi_ti {a : List V} (h : K (.bool false) l hp) : CB c X "isinstance" [.tup a, .glob (.type "int")] l hp K := by unfold CB; exact fun _ _ => isi_of (fun W s u Q E R r q => by obtain ⟨_, _, rfl, h2, _⟩ := R.tup_at r; exact isi_tup h2 rfl (by simp) q) h
theorem isi_rl {i : Nat} {vs : List V} (e : hp[i]? = some (.list vs)) (h : K (.bool true) l hp) : CB c X "isinstance" [.ref i, .glob (.type "list")] l hp K := by unfold CB; exact fun _ _ => isi_of (fun W s u Q E R r q => by obtain ⟨_, _, _, rfl, _, h2, _⟩ := R.list_at e r; exact isi_list h2 rfl (by simp) q) h
theorem isi_ri {i : Nat} {vs : List V} (e : hp[i]? = some (.list vs)) (h : K (.bool false) l hp) : CB c X "isinstance" [.ref i, .glob (.type "int")] l hp K := by unfold CB; exact fun _ _ => isi_of (fun W s u Q E R r q => by obtain ⟨_, _, _, rfl, _, h2, _⟩ := R.list_at e r; exact isi_list h2 rfl (by simp) q) h
theorem cb_append {i : Nat} {vs : List V} {v : V} (e : hp[i]? = some (.list vs)) (s : Side (vs.length ≤ sizeLine)) (h : K .none l (hp.set i (.list (vs ++ [v])))) : CB c X "list.append" [.ref i, v] l hp K := by unfold CB; exact fun _ _ => append_ok e s.h h
theorem ct_int {b : Bool} (h : K (.int (if b then 1 else 0)) l hp) : CT c X "int" [.bool b] l hp K := by unfold CT; exact fun _ _ => intBool_ok h
theorem ct_list_ref {i : Nat} {vs : List V} (e : hp[i]? = some (.list vs)) (s : Side (vs.length ≤ sizeLine)) (h : K (.ref hp.length) l (hp ++ [.list vs])) : CT c X "list" [.ref i] l hp K := by unfold CT; exact fun _ _ => listOf_ok (.inl ⟨_, rfl, e⟩) s.h h

theorem getI_nat {xs : List V} {k : Int} {v : V} (s : 0 ≤ k) (e : xs[k.toNat]? = some v) : getI xs k = some v := by
  unfold getI
  rw [if_pos s]
  exact e
theorem sb_ref {i : Nat} {xs : List V} {k : Int} {v : V} (e : hp[i]? = some (.list xs)) (s : Side (0 ≤ k ∧ k < 2 ^ 63)) (g : xs[k.toNat]? = some v) (h : K v l hp) : Sub c X (.ref i) (.int k) l hp K := by
  unfold Sub
  exact fun _ _ _ _ nsl => sub_list nsl e ⟨by have := s.h; omega, s.h.2⟩ (getI_nat s.h.1 g) h
theorem sb_scr {k : Int} {x : Int} (hc : CxIs c pg sc ns lev qt) (s : Side (0 ≤ k)) (g : ns[k.toNat]? = some x) (h : K (.int x) l hp) : Sub c X .scr (.int k) l hp K := by
  obtain ⟨rfl⟩ := hc
  unfold Sub
  exact fun fx F _ _ nsl => sub_scr F.all nsl s.h (by rw [F.ns]; exact g) h
theorem b_not {e : Expr} {K : KB} (h : B c X e l hp fun b l hp => K (!b) l hp) : B c X (.UnaryOp .Not e p) l hp K := by
  unfold B at *
  exact fun fx F => evB_not (h fx F)
theorem b_boolop {op : BoolOp} {es : List Expr} {K : KB} (h : BL c X op es l hp K) : B c X (.BoolOp op es p) l hp K := by
  unfold B BL at *
  exact fun fx F => h fx F p
theorem bl_and_nil {K : KB} (h : K true l hp) : BL c X .And [] l hp K := by unfold BL; exact fun _ _ _ => evB_and_nil h
theorem bl_or_nil {K : KB} (h : K false l hp) : BL c X .Or [] l hp K := by unfold BL; exact fun _ _ _ => evB_or_nil h
theorem bl_and {e : Expr} {r : List Expr} {K : KB} (h : B c X e l hp fun b l hp => If b (BL c X .And r l hp K) (K false l hp)) : BL c X .And (e :: r) l hp K := by
  unfold B BL If at *
  refine fun fx F pos => evB_and ((h fx F).mono fun b σ h₁ => ?_)
  cases b with
  | true => exact h₁ fx F pos
  | false => exact h₁
theorem bl_or {e : Expr} {r : List Expr} {K : KB} (h : B c X e l hp fun b l hp => If b (K true l hp) (BL c X .Or r l hp K)) : BL c X .Or (e :: r) l hp K := by
  unfold B BL If at *
  refine fun fx F pos => evB_or ((h fx F).mono fun b σ h₁ => ?_)
  cases b with
  | true => exact h₁
  | false => exact h₁ fx F pos
theorem b_cmp {a b : Expr} {op : CmpOp} {K : KB} (hm : behindInMarks op b = false) (h : E c X a l hp fun v l hp => E c X b l hp fun w l hp => Cmp c X op v w l hp fun r l hp => Tru c X r l hp K) : B c X (.Compare a [op] [b] p) l hp K := by
  unfold B
  unfold E Cmp Tru at h
  exact fun fx F => evB_cmp1 ((h fx F).mono fun v σ h₁ => (h₁ fx F).mono fun w σ' h₂ => (h₂ fx F).mono fun r σ'' h₃ => h₃ fx F) hm
theorem b_cmp2 {a b d : Expr} {op₁ op₂ : CmpOp} {K : KB} (hm : lastMarks [op₁, op₂] [b, d] = false) (h : E c X a l hp fun v l hp => E c X b l hp fun w l hp => Cmp c X op₁ v w l hp fun r l hp => Tru c X r l hp fun t l hp => If t (E c X d l hp fun f l hp => Cmp c X op₂ w f l hp fun r l hp => Tru c X r l hp K) (K false l hp)) :
    B c X (.Compare a [op₁, op₂] [b, d] p) l hp K := by
  unfold B
  unfold E Cmp Tru If at h
  refine fun fx F => evB_cmp2 ((h fx F).mono fun v σ h₁ => (h₁ fx F).mono fun w σ' h₂ => (h₂ fx F).mono fun r σ'' h₃ => (h₃ fx F).mono fun t σ₄ h₄ => ?_) hm
  cases t with
  | true => exact (h₄ fx F).mono fun f σ₅ h₅ => (h₅ fx F).mono fun r σ₆ h₆ => h₆ fx F
  | false => exact h₄
theorem b_plain {e : Expr} {K : KB} (k : plainT e = true) (h : E c X e l hp fun v l hp => Tru c X v l hp K) : B c X e l hp K := by
  unfold B
  unfold E Tru at h
  exact fun fx F => evB_plain ((h fx F).mono fun v σ h₁ => h₁ fx F) (plainT_of k)
theorem if_b {b : Bool} {P Q : Prop} (h : b = true → P) (h' : b = false → Q) : If b P Q := by
  unfold If
  cases b
  · exact h' rfl
  · exact h rfl
theorem if_t {P Q : Prop} (h : P) : If true P Q := by
  unfold If
  exact h
theorem if_f {P Q : Prop} (h : Q) : If false P Q := by
  unfold If
  exact h
theorem if_decide {P A B : Prop} [d : Decidable P] (h : P → A) (h' : ¬ P → B) : If (decide P) A B := if_b (fun q => h (of_decide_eq_true q)) (fun q => h' (of_decide_eq_false q))
theorem if_ndecide {P A B : Prop} [d : Decidable P] (h : ¬ P → A) (h' : P → B) : If (!decide P) A B := if_b (fun q => h (by simpa using q)) (fun q => h' (by simpa using q))
theorem rng1 {b : Int} {P : List V → Prop} (s : Side (-(2 ^ 62) ≤ b ∧ b < 2 ^ 62)) (h : P (rngItems 0 b.toNat)) : Rng [.int b] P := by
  unfold Rng
  exact .inl ⟨b, rfl, s.h, h⟩
theorem i_range {f : Str} {a : Expr} {args : List Expr} {P : KI} (hc : CxIs c pg sc ns lev true) (g : pg.gl f = some (.type "range")) (k : sc.names.lookup f = some .globalImplicit) (st : (a :: args).all noStar = true) (h : Es c X (a :: args) l hp fun vs l hp => Rng vs fun its => P its (fun _ => True) l hp) :
    I c X (.Call (.Name f q) (a :: args) [] p) l hp P := by
  obtain ⟨rfl⟩ := hc
  unfold I
  unfold Es Rng at h
  exact fun fx F => iter_range F.all (F.qt rfl) (by rw [F.pg]; exact g) (by rw [F.kind]; exact k) (F.name k).1 st (h fx F)
theorem i_val {e : Expr} {P : KI} (h : E c X e l hp fun v l hp => Srv c v l hp P) : I c X e l hp P := by
  unfold I
  unfold E Srv at h
  exact fun fx F => iter_val ((h fx F).mono fun v σ h₁ => h₁ fx F)
theorem srv_ref {i : Nat} {its : List V} {P : KI} (hc : CxIs c pg sc ns lev true) (e : hp[i]? = some (.list its)) (h : P its (fun σ' => σ'.hp[i]? = some (.list its)) l hp) : Srv c (.ref i) l hp P := by
  obtain ⟨rfl⟩ := hc
  unfold Srv
  exact fun fx F => srv_refT F.all (F.qt rfl) e h
/-! comprehensions -/
def compCk (sc csc : Scope) (t : Expr) : Bool := compOkB sc csc && nmsOk csc && tgtOk (fun x => csc.names.lookup x == some .local) t
theorem nms_relab {csc : Scope} (h : nmsOk csc = true) : nmsOk (relab csc) = true := by
  unfold nmsOk relab
  rw [List.all_map]
  refine List.all_eq_true.mpr fun y hy => ?_
  have := List.all_eq_true.mp h y hy
  dsimp only [Function.comp]
  split <;> exact this
@[irreducible] def Comp (c : Cx) (elt t : Expr) (ifs : List Expr) (csc : Scope) (its : List V) (need : St → Prop) (l : Lo) (hp : List O) (K : List O → Prop) : Prop :=
  ∃ J, (∀ fx, FxAt c fx → CompJ fx elt t ifs csc its need ⟨l, hp⟩ J) ∧ ∀ hp', J its.length hp' → K hp'
theorem e_comp {elt t iter : Expr} {ifs : List Expr} {csc : Scope} (hc : CxIs c pg sc ns lev true) (ck : compCk sc csc t = true) (ns' : notSet iter = true) (h : I c X iter l hp fun its need l hp => Comp c elt t ifs csc its need l hp fun hp' => K (.ref hp.length) l hp') : E c X (.ListComp elt [⟨t, iter, ifs, 0⟩] csc p) l hp K := by
  obtain ⟨rfl⟩ := hc
  unfold compCk at ck
  simp only [Bool.and_eq_true] at ck
  unfold E
  unfold I Comp at h
  exact fun fx F => evComp F.all (F.qt rfl) (compOk_of F.sc ck.1.1) (folded_of ns' _) ((h fx F).mono fun its need σ ⟨J, h1, h2⟩ => ⟨J, h1 fx F, h2⟩)
theorem s_comp {x : Str} {elt t iter : Expr} {ifs : List Expr} {csc : Scope} {K : KF} (hc : CxIs c pg sc ns lev true) (kx : varOk sc x = true) (ck : compCk sc csc t = true) (ns' : notSet iter = true) (h : I c X iter l hp fun its need l hp => Comp c elt t ifs csc its need l hp fun hp' => K .next (setN l x (.ref hp.length)) hp') : S c X (.Assign [.Name x q] (.ListComp elt [⟨t, iter, ifs, 0⟩] csc r) p) l hp K := by
  obtain ⟨rfl⟩ := hc
  unfold compCk at ck
  simp only [Bool.and_eq_true] at ck
  unfold S
  unfold I Comp at h
  exact fun fx F hL => evAssignComp F.all (F.qt rfl) (isVar_of F hL kx) (compOk_of F.sc ck.1.1) (folded_of ns' _) ((h fx F).mono fun its need σ ⟨J, h1, h2⟩ => ⟨J, h1 fx F, h2⟩)
/-- a comprehension with no test, by a relation -/
theorem comp_gen (hc : CxIs c pg sc ns lev qt) {elt t : Expr} {csc : Scope} {its : List V} {need : St → Prop} {K : List O → Prop} (ck : compCk sc csc t = true) (R : Nat → V → Prop) (hl : its.length ≤ sizeLine) (hneed : ∀ vs : List V, need ⟨l, hp ++ [.list vs]⟩)
    (turn : ∀ (k : Nat) (hk : k < its.length) (vs : List V), vs.length = k → (∀ (j : Nat) (hj : j < vs.length), R j vs[j]) → ∃ bs, tgtV t its[k] = some bs ∧ ∀ c', CxIs c' pg (relab csc) ns lev qt → E c' X0 elt (setAll (compLoc csc l) bs) (hp ++ [.list vs]) (fun v _ hp' => hp' = hp ++ [.list vs] ∧ R k v))
    (fin : ∀ vs : List V, vs.length = its.length → (∀ (j : Nat) (hj : j < vs.length), R j vs[j]) → K (hp ++ [.list vs])) : Comp c elt t [] csc its need l hp K := by
  obtain ⟨rfl⟩ := hc
  unfold compCk at ck
  simp only [Bool.and_eq_true] at ck
  unfold Comp
  refine ⟨fun k hp' => ∃ vs : List V, vs.length = k ∧ (∀ (j : Nat) (hj : j < vs.length), R j vs[j]) ∧ hp' = hp ++ [.list vs], fun fx F => ⟨⟨[], rfl, fun j hj => by simp at hj, rfl⟩, fun k hp' ⟨vs, _, _, e⟩ => e ▸ hneed vs, hl, ?_⟩, fun hp' ⟨vs, e1, e2, e3⟩ => e3 ▸ fin vs e1 e2⟩
  rintro k hp' hk ⟨vs, hv, hR, rfl⟩
  obtain ⟨bs, e, x⟩ := turn k hk vs hv hR
  have co := compOk_of F.sc ck.1.1
  refine ⟨bs, e, fun b hb => by simpa using tgt_ok ck.2 e b hb, fun fc allc e1 e2 e3 e5 e4 => evTs_nil ?_⟩
  have x := x _ ⟨rfl⟩
  unfold E at x
  refine (x fc ⟨allc, e1.trans F.pg, e4.trans (relabel_eq co F.all.ok.kind), e2.trans F.ns, by rw [e3]; exact F.lev, fun z => e5.trans (F.qt z), nms_relab ck.1.2⟩).mono fun v σ ⟨e1, e2⟩ => ?_
  refine ⟨vs, by rw [e1]; simp, by omega, vs ++ [v], by simp [hv], fun j hj => ?_, by rw [e1]; simp⟩
  rcases Nat.lt_or_ge j vs.length with q | q
  · rw [List.getElem_append_left q]
    exact hR j q
  · have : j = vs.length := by simp at hj; omega
    subst this
    simp
    rw [hv]
    exact e2

theorem s_ret {e : Expr} {K : KF} (h : E c X e l hp fun v l hp => K (.ret v) l hp) : S c X (.Return (some e) p) l hp K := by
  unfold S
  unfold E at h
  exact fun fx F _ => evReturn (h fx F)
theorem s_expr {e : Expr} {K : KF} (nc : notComp e = true) (h : E c X e l hp fun _ l hp => K .next l hp) : S c X (.Expr e p) l hp K := by
  unfold S
  unfold E at h
  exact fun fx F _ => evExpr F.all.ok (h fx F) nc
theorem s_asg {x : Str} {e : Expr} {K : KF} (hc : CxIs c pg sc ns lev qt) (nc : notComp e = true) (kx : varOk sc x = true) (h : E c X e l hp fun v l hp => K .next (setN l x v) hp) : S c X (.Assign [.Name x q] e p) l hp K := by
  obtain ⟨rfl⟩ := hc
  unfold S
  unfold E at h
  exact fun fx F hL => evAssignName F.all (isVar_of F hL kx) (h fx F) nc
theorem s_if {t : Expr} {b o : List Stmt} {K : KF} (h : B c X t l hp fun d l hp => If d (Ss c X b l hp K) (Ss c X o l hp K)) : S c X (.If t b o p) l hp K := by
  unfold S
  unfold B If Ss at h
  refine fun fx F hL => evIf ((h fx F).mono fun d σ h₁ => ?_)
  cases d with
  | true => exact h₁ fx F hL
  | false => exact h₁ fx F hL
theorem ss_nil {K : KF} (h : K .next l hp) : Ss c X [] l hp K := by unfold Ss; exact fun _ _ _ => evSs_nil h
theorem ss_cons {st : Stmt} {r : List Stmt} {K : KF} (h : S c X st l hp fun fl l hp => match fl with | .next => Ss c X r l hp K | f => K f l hp) : Ss c X (st :: r) l hp K := by
  unfold Ss
  unfold S at h
  refine fun fx F hL => evSs_cons ((h fx F hL).mono fun fl σ h₁ => ?_)
  cases fl with
  | next =>
    dsimp only at h₁
    unfold Ss at h₁
    exact h₁ fx F hL
  | _ => exact h₁
theorem ss_asg {ts : List Expr} {e : Expr} {r : List Stmt} {K : KF} (h : S c X (.Assign ts e p) l hp fun fl l hp => match fl with | .next => Ss c X r l hp K | f => K f l hp) : Ss c X (.Assign ts e p :: r) l hp K := ss_cons h
theorem ss_expr {e : Expr} {r : List Stmt} {K : KF} (h : S c X (.Expr e p) l hp fun fl l hp => match fl with | .next => Ss c X r l hp K | f => K f l hp) : Ss c X (.Expr e p :: r) l hp K := ss_cons h
theorem ss_ret {e : Option Expr} {r : List Stmt} {K : KF} (h : S c X (.Return e p) l hp fun fl l hp => match fl with | .next => Ss c X r l hp K | f => K f l hp) : Ss c X (.Return e p :: r) l hp K := ss_cons h
theorem ss_raise {a b : Option Expr} {r : List Stmt} {K : KF} (h : S c X (.Raise a b p) l hp fun fl l hp => match fl with | .next => Ss c X r l hp K | f => K f l hp) : Ss c X (.Raise a b p :: r) l hp K := ss_cons h
theorem ss_if {t : Expr} {b o r : List Stmt} {K : KF} (h : B c X t l hp fun d l hp => If d (Ss c X b l hp (fun fl l hp => match fl with | .next => Ss c X r l hp K | f => K f l hp)) (Ss c X o l hp (fun fl l hp => match fl with | .next => Ss c X r l hp K | f => K f l hp))) : Ss c X (.If t b o p :: r) l hp K := ss_cons (s_if h)
theorem s_mono {st : Stmt} {K K' : KF} (h : S c X st l hp K) (hk : ∀ fl l hp, K fl l hp → K' fl l hp) : S c X st l hp K' := by
  unfold S at *
  exact fun fx F hL => (h fx F hL).mono fun _ _ x => hk _ _ _ x
theorem ss_cut {st : Stmt} {rest : List Stmt} {K : KF} (P : Lo → List O → Prop) (h1 : S c X st l hp (fun fl l hp => fl = .next ∧ P l hp)) (h2 : ∀ l hp, P l hp → Ss c X rest l hp K) : Ss c X (st :: rest) l hp K :=
  ss_cons (s_mono h1 fun fl l hp ⟨e, x⟩ => by subst e; exact h2 l hp x)
theorem s_for {t iter : Expr} {b : List Stmt} {K : KF} (hc : CxIs c pg sc ns lev true) (tk : tgtOk (varOk sc) t = true) (ns' : notSet iter = true)
    (h : I c X iter l hp fun its need l hp => ∃ J : Nat → Lo → List O → Prop, J 0 l hp ∧ (∀ k l hp, J k l hp → need ⟨l, hp⟩) ∧
      (∀ (k : Nat) (hk : k < its.length) l hp, J k l hp → ∃ bs, tgtV t its[k] = some bs ∧ Ss c X b (setAll l bs) hp fun fl l hp => match fl with | .next | .cont => J (k + 1) l hp | .brk => K .next l hp | .ret v => K (.ret v) l hp) ∧
      ∀ l hp, J its.length l hp → K .next l hp) : S c X (.For t iter b [] p) l hp K := by
  obtain ⟨rfl⟩ := hc
  unfold S
  unfold I at h
  refine fun fx F hL => evFor F.all hL ((h fx F).mono fun its need σ ⟨J, h1, h2, h3, h4⟩ => ⟨fun k σ => J k σ.loc σ.hp, h1, fun k σ x => h2 k σ.loc σ.hp x, fun k σ' hk hJ ps al => ?_, fun σ x => h4 _ _ x⟩) (folded_of ns' _)
  obtain ⟨bs, e, y⟩ := h3 k hk σ'.loc σ'.hp hJ
  have Fp := F.push al
  unfold Ss at y
  refine asgT_of al (F.qt rfl) e (fun b hb => isVar_of Fp hL (tgt_ok tk e b hb)) ((y _ Fp hL).mono fun fl σ₂ z => ?_)
  cases fl <;> exact z
theorem tgt1 {x : Str} {v : V} : tgtV (.Name x p) v = some [(x, v)] := rfl
theorem s_for1 {x : Str} {iter : Expr} {b : List Stmt} {K : KF} (hc : CxIs c pg sc ns lev true) (tk : tgtOk (varOk sc) (.Name x q) = true) (ns' : notSet iter = true)
    (h : I c X iter l hp fun its need l hp => ∃ J : Nat → Lo → List O → Prop, J 0 l hp ∧ (∀ k l hp, J k l hp → need ⟨l, hp⟩) ∧
      (∀ (k : Nat) (hk : k < its.length) l hp, J k l hp → Ss c X b (setN l x its[k]) hp fun fl l hp => match fl with | .next | .cont => J (k + 1) l hp | .brk => K .next l hp | .ret v => K (.ret v) l hp) ∧
      ∀ l hp, J its.length l hp → K .next l hp) : S c X (.For (.Name x q) iter b [] p) l hp K := by
  refine s_for hc tk ns' ?_
  unfold I at *
  exact fun fx F => (h fx F).mono fun its need σ ⟨J, h1, h2, h3, h4⟩ => ⟨J, h1, h2, fun k hk l hp x => ⟨_, tgt1, h3 k hk l hp x⟩, h4⟩
theorem s_while {t : Expr} {b : List Stmt} {K : KF} (J : Nat → Lo → List O → Prop) (m : Nat) (h0 : J m l hp)
    (turn : ∀ m l hp, J m l hp → B c X t l hp fun d l hp => If d (Ss c X b l hp (fun fl l hp => match fl with | .next | .cont => ∃ m', m' < m ∧ J m' l hp | .brk => K .next l hp | .ret v => K (.ret v) l hp)) (K .next l hp)) :
    S c X (.While t b [] p) l hp K := by
  unfold S
  refine fun fx F hL => evWhile F.all hL (fun m σ => J m σ.loc σ.hp) m h0 fun m σ hJ => ?_
  have y := turn m σ.loc σ.hp hJ
  unfold B If Ss at y
  refine (y fx F).mono fun d σ₁ h₁ => ?_
  cases d with
  | true => exact (h₁ fx F hL).mono fun fl σ₂ z => by cases fl <;> exact z
  | false => exact h₁

/-! exceptions -/
theorem s_raise {x : Str} {C : Addr} {e₀ : Expr} {rest : List Expr} {K : KF} (hc : CxIs c pg sc ns lev true) (g : pg.gl x = some (.ref C)) (g1 : nsIn pg.K mainGlobals x = some (some (.ref C))) (g2 : excIn pg.K C veMro "ValueError.__new__" = true) (k : sc.names.lookup x = some .globalImplicit) (st : (e₀ :: rest).all noStar = true)
    (h : Es c X (e₀ :: rest) l hp fun vs l hp => Sz vs (X (.ref C) ⟨l, hp⟩)) : S c X (.Raise (some (.Call (.Name x q) (e₀ :: rest) [] r)) none p) l hp K := by
  obtain ⟨rfl⟩ := hc
  unfold S
  unfold Es Sz at h
  exact fun fx F _ => evRaise F.all (F.qt rfl) (by rw [F.pg]; exact g) (by rw [F.pg]; exact g1) (by rw [F.pg]; exact g2) (by rw [F.kind]; exact k) (F.name k).1 st (h fx F)
theorem s_try {b : List Stmt} {h₀ : ExceptHandler} {hs : List ExceptHandler} {K : KF} (h : Ss c (fun cls σ => Hd c X (h₀ :: hs) cls σ.loc σ.hp K) b l hp K) : S c X (.Try b (h₀ :: hs) [] [] p) l hp K := by
  unfold S
  unfold Ss at h
  exact fun fx F hL => evTry F.all hL (h fx F hL) fun cls σ' hX => by unfold Hd at hX; exact hX fx F hL
theorem fxH_at {fx : Fx} (F : FxAt c fx) (e : Addr) : FxAt { c with qt := false } (fxH fx e) := ⟨fxH_all F.all e, F.pg, F.sc, F.ns, F.lev, fun z => (by cases z), F.nk⟩
theorem hd_hit1 {y z : Str} {b₀ : Stmt} {suite : List Stmt} {r : List ExceptHandler} {C : Addr} {cv : Value} {K : KF} (hc : CxIs c pg sc ns lev qt) (g : pg.gl y = some cv) (e : exmOne pg.K (.ref C) cv = some true) (k : sc.names.lookup y = some .globalImplicit) (kz : sc.names.lookup z = some .local)
    (h : ∀ c', CxIs c' pg sc ns lev false → Ss c' X0 (b₀ :: suite) (setN l z (.ref hp.length)) (hp ++ [.exn C]) (fun fl l hp => K fl (fun y => if y = z then none else l y) hp)) :
    Hd c X (.ExceptHandler (some (.Name y q)) (some z) (b₀ :: suite) p :: r) (.ref C) l hp K := by
  obtain ⟨rfl⟩ := hc
  have h := h _ ⟨rfl⟩
  unfold Ss at h
  unfold Hd
  exact fun fx F hL => evH_hit1 F.all (by rw [F.pg]; exact g) (by rw [F.kind]; exact k) (F.name k).1 (by rw [F.pg]; exact e) hL (by rw [F.kind]; exact kz) fun a => h _ (fxH_at F a) hL
end
end Mine

set_option autoImplicit false
namespace Mine
open PySem PySem.W PySem.Calls PySem.Spec PyProof.Rows

/-! a loop over a zip of two lists -/
section
variable {fx : Fx} {X : XP} {σ : St} {W : Wd} {s : Shared}
end
section
variable {c : Cx} {X : XP} {l : Lo} {hp : List O} {p q r : Pos} {pg : Pg} {sc : Scope} {ns : List Int} {lev : Nat}
end
end Mine

set_option autoImplicit false
namespace Mine
open PySem PySem.W PySem.Calls PySem.Spec PyProof.Rows

theorem law_run {pg : Pg} {s₁ : Shared} {law : Str} {f fa a : Addr} {x : Str} {body : List Stmt} {scope : Scope} {vals : List Value} {ns : List Int} {R : Result → Shared → Prop}
    (T : Top pg.p pg.loose pg.mean pg.mg pg.mb s₁.heap) (KX : pg.K.In s₁.heap) (hgl : nsIn pg.K mainGlobals law = some (some (.ref f))) (hmg : pg.mg law = some (.ref fa)) (D : FnAt pg f [x] body scope) (nk : nmsOk scope = true)
    (hL : s₁.heap.IsList a vals.toArray) (hI : IntsAre vals ns) (hn : ns.length ≤ 63)
    (h : ∀ fx, FxAt ⟨pg, scope, ns, 600, true⟩ fx → fx.env.locals = fx.L → EvSs fx X0 body ⟨bindV [x] [.scr] (fun _ => none), []⟩ (fun fl _ => fl = .ret (.bool true)))
    (hR : ∀ s' m', Fr s₁.heap s₁.heap.objs.size s'.heap m' → s'.gens = s₁.gens → s'.os = s₁.os → R (.ok (.ret (.bool true))) s') :
    codeAny (model pg.prog pg.w) callerA (.call (.ref fa) ⟨[.ref a], []⟩) R s₁ := by
  have e := mg_of KX T.g hgl
  rw [hmg] at e
  cases e
  obtain ⟨name, qual, params, dV, kV, doc, pm, an, cdv, ct, oc, od, osl, ho, hcd, hbind⟩ := D.data
  have hb := hbind [.ref a] rfl
  refine codeAny_call_function (by decide) (KX _ _ ho) rfl D.hco D.hgen rfl (codeRec_of KX hcd) ((BindsTo.of_eq hb) _ _ _ _ ?_)
  refine wpAny_newFunctionEnv_cells D.hk (fun y hy => ?_) fun env' he s' x' => ?_
  · have hx' : y.1 ∈ [x] := (List.of_mem_zip (a := y.1) (b := y.2) hy).1
    rcases D.kinds y.1 hx' with q | q
    · exact .inl q
    · exact .inr ⟨q, cf_some _ _ _ (.inl q)⟩
  subst he
  refine ⟨T.nolimit.keeps x'.toInCall.keep, codeAny_func ?_⟩
  obtain ⟨h₁, tk, rfl, _⟩ := x'.done
  have hk₁ := x'.toInCall.keep
  obtain ⟨cells, N, Y⟩ := Cl.news (h₀ := s₁.heap) (Nat.le_refl _) fun n c hm => ⟨x'.cell n c (lookup_of_mem_nodup (cellsFrom_names scope.names 0 (s₁.heap.objs.size + 1) [] [] rfl ▸ D.cells) hm), x'.above n c hm⟩
  let L' := s₁.heap.objs.size
  have keysC := cellsAre_keys Y
  have cfa := cf_addr scope.names (L' + 1) (L' + 1) [] (Nat.le_refl _) (by simp) (fun p hp => by cases hp)
  have cellAt : ∀ y c, (cellsFrom (L' + 1) scope.names []).lookup y = some c → ∃ o, (c, o) ∈ cells ∧ o.data = .cell (bindC (envOfC qual scope L' f cdv).kindOf ([x].zip [.ref a]) (fun _ => none) y) := fun y c h => cellsAre_at Y (lookup_mem h)
  have F' : Fr s₁.heap L' h₁ (bindL (envOfC qual scope L' f cdv).kindOf ([x].zip [.ref a]) fun _ => none) := ⟨x'.toInCall.ns, hk₁, Nat.le_refl _⟩
  let fx : Fx := { pg := pg, A := callerA.deeper (envOfC qual scope L' f cdv), env := envOfC qual scope L' f cdv, fenv := envOfC qual scope L' f cdv, outer := [], A₀ := callerA, base := s₁.heap, h₀ := s₁.heap, L := L',
                   ex := [], s₀ := s₁, sc := a, ns := ns, lev := 600, mfix := none, qt := true }
  have all : FxAll fx := {
    ok := ⟨D.hk, fun _ => rfl⟩
    locs := .inl rfl
    cex := fun _ x c h p hp => by cases hp
    cinj := fun x y c h h' => snd_inj cfa.1 (lookup_mem h) (lookup_mem h')
    cdef := fun x h q => by
      have := cf_some (x := x) scope.names (L' + 1) [] (.inl h)
      rw [show (cellsFrom (L' + 1) scope.names []).lookup x = none from q] at this
      cases this
    scr := by
      obtain ⟨o, h1, h2, n, h3⟩ := hL
      exact ⟨vals, n, o, h1, h2, h3, hI, Nat.lt_of_le_of_lt hn (by decide)⟩
    egl := rfl
    ebu := rfl
    top := T
    part := KX
    below := below_caller _
    dicts := ktsDicts_nil
    frs := rfl
    ffr := rfl
    fkd := D.hk
    depth := by show 1 + claimMargin + 1 + 600 < recursionLimit; decide
    room := by show 4 + 3 + 8 * 600 + 100 < cLine; decide
    mfn := fun _ => rfl
    envf := fun _ => rfl }
  have R' : Rep fx ⟨bindV [x] [.scr] (fun _ => none), []⟩ ⟨[], [], a⟩ { s₁ with heap := h₁, toks := tk } := by
    refine ⟨rfl, _, _, cells, .refl, F', N, ⟨?_, ?_, ?_, List.nodup_nil, rfl, ?_, ?_, fun y v h => ?_, fun y c h => ?_, rfl, ?_, ?_⟩⟩
    · rw [keysC]; exact cfa.1
    · intro p hp; cases hp
    · intro p hp; cases hp
    · intro i o h; simp at h
    · intro t ht; cases ht
    · obtain ⟨u, h1, h2⟩ := bind_rel (W := ⟨[], [], a⟩) (xs := [x]) (vs := [.scr]) (us := [.ref a]) (kindOf := (envOfC qual scope L' f cdv).kindOf) (.cons .scr .nil) D.kinds (fun _ => none) (fun _ => none) (fun _ => none) (fun y v h => by cases h) y v h
      refine ⟨u, h1, ?_⟩
      rcases h2 with ⟨k1, k2⟩ | ⟨k1, k2⟩
      · exact .loc k1 rfl k2
      · have hs := cf_some (x := y) scope.names (L' + 1) [] (.inl k1)
        obtain ⟨c, hc⟩ := Option.isSome_iff_exists.mp hs
        obtain ⟨o, ho, hd⟩ := cellAt y c hc
        exact .cell (.inl k1) hc ho (by rw [hd, k2])
    · obtain ⟨o, ho, hd⟩ := cellAt y c h
      exact ⟨List.not_mem_nil, o, _, ho, hd⟩
    · intro _ q; cases q
    · intro p hp; cases hp
  refine wpAny_mono (h fx ⟨all, rfl, rfl, rfl, Nat.le_refl _, fun _ => rfl, nk⟩ rfl _ _ R') ?_ fun _ _ x => x.never.elim
  rintro fl s' ⟨W', σ', fl', le', ⟨er, g', m', news', G'', F₁, _, _⟩, r'', rfl⟩
  have F'' : Fr s₁.heap s₁.heap.objs.size s'.heap m' := ⟨F₁.ns, fun b o e => F₁.keep b o (G''.other b o e (by simp [fx])), Nat.le_refl _⟩
  cases r'' with
  | ret r =>
    cases r
    exact hR s' m' F'' (by rw [er]) (by rw [er])

end Mine

set_option autoImplicit false
namespace Mine
open PySem PySem.W PySem.Calls PySem.Spec PyProof.Rows
open PySem.Builtin PySem.Builtin.ObjectAttr PySem.Builtin.Getset_descriptor

/-! isinstance of an exception of an own class -/
def XcAt (x D : Addr) (h : Heap) : Prop := ∃ ob, h.get? x = some ob ∧ ob.cls = .ref D
section
variable {prog : Program} {w : World} {A : Around} {E : Value → Shared → Prop} {s : Shared} {K : Frag} {x D : Addr}
theorem xc_type {M : Model} {h : Heap} (I : XcAt x D h) : Looks M h (typeOf (.ref x)) (.ref D) := by
  obtain ⟨ob, h1, h2⟩ := I
  exact h2 ▸ (Looks.ld h1).andThen .now

theorem xc_get {R : Result → Shared → Prop} {tp : Value} (X : K.In s.heap) (I : XcAt x D s.heap) (hm : mroIn K D (.type "object") = some true)
    (h : R (.ok (.ret (.ref D))) s) : codeAny (model prog w) A (.call (.builtin "getset_descriptor.__get__") ⟨[.builtin "object.__class__", .ref x, tp], []⟩) R s := by
  obtain ⟨hh, g, dr, t, os⟩ := s
  have L0 := xc_type (M := model prog w) I
  have L1 := looks_mroIn (M := model prog w) X hm
  refine codeAny_call_builtin KF.slot_gs.plain KF.entry_gs (KF.slot_gs.check _ _ _ _ _ _ _ _ KF.type_class (KF.args_gs _ _ _) ?_)
  unfold Builtin.«getset_descriptor.__get__» descrGet
  rw [dga_obj]
  refine wpAny_bind (wpAny_pure ?_)
  unfold descrGetter descrCheckInstance descrNameAndClass isInstance
  simp only [KF.owner_class]
  repeat lk
  refine ⟨Code.quiet_builtin _ (by decide +kernel), codeAny_builtin KF.entry_class ?_⟩
  unfold Builtin.«object.__class__» shownTypeOf
  repeat lk
  exact h

theorem xc_class {Q : Option Value → Shared → Prop} (hga : findIn K (.ref D) "__getattribute__" = some (some (.builtin "BaseException.__getattribute__"))) (hgh : findIn K (.ref D) "__getattr__" = some none)
    (ha : findIn K (.ref D) "__class__" = some (some (.builtin "object.__class__")))
    (hn : specialIn K (.builtin "object.__class__") "__get__" = some (some (.builtin "getset_descriptor.__get__"))) (htk : takesIn K (.builtin "object.__class__") = some true) (hm : mroIn K D (.type "object") = some true) (hb : mroIn K D (.type "BaseException") = some true)
    (X : K.In s.heap) (I : XcAt x D s.heap) (h : Q (some (.ref D)) { s with toks := s.toks + 1 }) : wpAny (model prog w) A (getAttr? (.ref x) "__class__") Q E s := by
  obtain ⟨hh, g, d, t, os⟩ := s
  have L0 := xc_type (M := model prog w) I
  have L1 := looks_findIn (M := model prog w) X hga
  have L2 := looks_findIn (M := model prog w) X hgh
  have LB := looks_mroIn (M := model prog w) X hb
  have LF : Looks (model prog w) hh (find (.ref x) (.ref D) "__class__") (.bind (.builtin "getset_descriptor.__get__") (.builtin "object.__class__")) := by
    refine (looks_findIn (M := model prog w) X ha).andThen ((show Looks _ _ (getOf (some (.builtin "object.__class__"))) _ from looks_specialIn X hn).andThen ?_)
    exact (show Looks _ _ (dataDescriptor? (some (.builtin "object.__class__")) (some (.builtin "getset_descriptor.__get__"))) (some (.builtin "getset_descriptor.__get__", .builtin "object.__class__")) from (looks_takesIn X htk).andThen .now).andThen (Looks.tag .now)
  unfold getAttr? getAttrBy? getAttrBy
  refine wpAny_bind (wpAny_mkText (wpAny_bind (wpAny_attempt (wpAny_holding (wpAny_bind (L0.at (wpAny_bind (L1.at ?_))))))))
  show wpAny _ _ (getAttrByItsOwn _ _ _ _ _ _) _ _ _
  unfold getAttrByItsOwn
  refine wpAny_bind (L2.at ?_)
  refine wpAny_bind (wpAny_attempt (wpAny_holding ?_))
  show wpAny _ _ (boundAndCalled _ _ _) _ _ _
  unfold boundAndCalled
  rw [F.excAttr_ValueError.ga.bind]
  refine wpAny_bind (wpAny_pure ?_)
  refine wpAny_call (codeAny_call_builtin F.excAttr_ValueError.ga.plain F.entry_bexc_ga ?_)
  have hk : builtinKind "BaseException.__getattribute__" = some .slot := by decide +kernel
  have hsplit : splitId "BaseException.__getattribute__" = some ("BaseException", "__getattribute__") := by decide +kernel
  have hargs := F.args_bexc_ga (.ref x) (.str "__class__" t)
  simp only [checkBuiltinCall, hk, hsplit]
  have LI : Looks (model prog w) hh (isInstance (.ref x) (.type "BaseException")) true := L0.andThen LB
  refine wpAny_bind (LI.at ?_)
  unfold Builtin.«object.__getattribute__»
  repeat (first | exact hargs | lk)
  refine wpAny_run (codeAny_mono (xc_get (s := ⟨hh, g, d, t + 1, os⟩) (R := fun r s' => r = .ok (.ret (.ref D)) ∧ s' = ⟨hh, g, d, t + 1, os⟩) X I hm ⟨rfl, rfl⟩) ?_)
  rintro _ _ ⟨rfl, rfl⟩
  exact wpAny_pure (wpAny_pure (wpAny_pure (wpAny_pure h)))
end

structure XcFacts (K : Frag) (D : Addr) : Prop where
  ga : findIn K (.ref D) "__getattribute__" = some (some (.builtin "BaseException.__getattribute__"))
  gh : findIn K (.ref D) "__getattr__" = some none
  ca : findIn K (.ref D) "__class__" = some (some (.builtin "object.__class__"))
  gs : specialIn K (.builtin "object.__class__") "__get__" = some (some (.builtin "getset_descriptor.__get__"))
  tk : takesIn K (.builtin "object.__class__") = some true
  ob : mroIn K D (.type "object") = some true
  be : mroIn K D (.type "BaseException") = some true
theorem kitx_exc {K : Frag} {x D : Addr} (f : XcFacts K D) : KitX K (.ref x) (.ref D) (XcAt x D) := by
  obtain ⟨cd, hcd, _⟩ := Option.bind_eq_some_iff.mp f.ob
  refine ⟨fun _ _ _ I => xc_type I, fun _ _ X _ => ?_, fun h tp dd its n sl X htp => ?_, fun X I k => xc_class f.ga f.gh f.ca f.gs f.tk f.ob f.be X I k⟩
  · unfold clsIn at hcd
    split at hcd
    · rename_i ho
      intro A' Q' E' s' k q
      unfold isType loadHead
      exact wpAny_bind (wpAny_loadPart (k _ _ (X _ _ ho)) (wpAny_pure q))
    · cases hcd
  · refine Bool.eq_false_iff.mpr fun q => ?_
    have e : D = tp := Value.ref.inj (beq_iff_eq.mp q)
    subst e
    unfold clsIn at hcd
    split at hcd
    · rename_i ho
      have z := (X _ _ ho).symm.trans htp
      cases z
    · cases hcd
theorem Rep.exn_at {fx : Fx} {σ : St} {W : Wd} {s : Shared} (R : Rep fx σ W s) {i : Nat} {D : Addr} {u : Value} (ho : σ.hp[i]? = some (.exn D)) (r : VR W (.ref i) u) : ∃ a, u = .ref a ∧ XcAt a D s.heap := by
  refine R.elim fun _ g m news G F N C => ?_
  obtain ⟨a, ob, h1, h2, h3⟩ := C.obs i _ ho
  cases r with
  | ref e =>
    rw [h1] at e
    cases e
    cases h3 with
    | exn q _ => exact ⟨a, rfl, _, (N _ h2).1, q⟩
theorem isi_exn {c : Cx} {X : XP} {l : Lo} {hp : List O} {K : KV} {pg : Pg} {sc : Scope} {ns : List Int} {lev : Nat} {qt : Bool} {i : Nat} {D : Addr} {v : Value} {b : Bool} (hc : CxIs c pg sc ns lev qt) (e : hp[i]? = some (.exn D)) (f : XcFacts pg.K D) (k : kitOne pg.K (.ref D) v = some b)
    (h : K (.bool b) l hp) : CB c X "isinstance" [.ref i, .glob v] l hp K := by
  obtain ⟨rfl⟩ := hc
  unfold CB
  intro fx F W s us R r
  have X' := F.all.part.keeps (F.all.stays R)
  rw [F.pg] at X'
  cases r with
  | cons r₁ r =>
    cases r with
    | cons r₂ r =>
      cases r; cases r₂
      obtain ⟨a, rfl, I⟩ := R.exn_at e r₁
      exact kia_one (kitx_exc f) X' I k (by intro q; cases q) fun tk => .here (R.toks tk) (.bool _) h
theorem s_try1 {c : Cx} {X : XP} {l : Lo} {hp : List O} {p : Pos} {b : List Stmt} {h₀ : ExceptHandler} {hs : List ExceptHandler} {K : KF} (D : Value) (P : Lo → List O → Prop) (h1 : ∀ X' : XP, (∀ l hp, P l hp → X' D ⟨l, hp⟩) → Ss c X' b l hp K)
    (h2 : ∀ l hp, P l hp → Hd c X (h₀ :: hs) D l hp K) : S c X (.Try b (h₀ :: hs) [] [] p) l hp K := s_try (h1 _ h2)
end Mine

set_option autoImplicit false
namespace Mine
open PySem PySem.W PySem.Calls PySem.Spec PyProof.Rows

/-! a list times a number; the least of a list -/
section
variable {fx : Fx} {X : XP} {σ : St} {W : Wd} {s : Shared}
end
section
variable {c : Cx} {X : XP} {l : Lo} {hp : List O} {K : KV}
end
end Mine

set_option autoImplicit false
namespace Mine
open PySem PySem.W PySem.Calls PySem.Spec PyProof.Rows

theorem fn1 {α : Type} {P : List α → Prop} (h : ∀ a, P [a]) : ∀ us : List α, us.length = 1 → P us
  | [a], _ => h a
theorem fn2 {α : Type} {P : List α → Prop} (h : ∀ a b, P [a, b]) : ∀ us : List α, us.length = 2 → P us
  | [a, b], _ => h a b
theorem fn3 {α : Type} {P : List α → Prop} (h : ∀ a b c, P [a, b, c]) : ∀ us : List α, us.length = 3 → P us
  | [a, b, c], _ => h a b c
theorem fn4 {α : Type} {P : List α → Prop} (h : ∀ a b c d, P [a, b, c, d]) : ∀ us : List α, us.length = 4 → P us
  | [a, b, c, d], _ => h a b c d
theorem fnAt_of {pg : Pg} {f : Addr} {xs : List Str} {name qual : Str} {params : Arguments} {body : List Stmt} {scope : Scope} {dV kV doc pm an cdv ct oc od osl} (h1 : pg.K.lookup f = some ⟨oc, od, .func (fnOf name qual params body scope dV kV doc pm an cdv ct), osl⟩) (h2 : codeIn pg.K cdv qual = true)
    (h3 : ∀ us : List Value, us.length = xs.length → bindArgs (fnOf name qual params body scope dV kV doc pm an cdv ct) ⟨us, []⟩ = pure (xs.zip us)) (h4 : ∀ x ∈ xs, scope.names.lookup x = some .local ∨ scope.names.lookup x = some .cell)
    (h5 : ((cellsFrom 0 scope.names []).map (·.1)).Nodup) (h6 : scope.isCoroutine = false) (h7 : scope.isGenerator = false) (h8 : scope.kind = .function) : FnAt pg f xs body scope :=
  ⟨⟨name, qual, params, dV, kV, doc, pm, an, cdv, ct, oc, od, osl, h1, h2, h3⟩, h4, h5, h6, h7, h8⟩
/-- a def, by its rules -/
theorem fn_run {pg : Pg} {f : Addr} {xs : List Str} {body : List Stmt} {scope : Scope} (D : FnAt pg f xs body scope) {lev : Nat} {qt : Bool} {ns : List Int} {vs : List V} {hp : List O} {X : Value → List O → Prop} {Q : V → List O → Prop} (hl : vs.length = xs.length) (hok : nmsOk scope = true)
    (h : ∀ c, CxIs c pg scope ns lev qt → Ss c (fun d σ => X d σ.hp) body (bindV xs vs fun _ => none) hp (fun fl _ hp' => Q (retV fl) hp')) : CallOK pg (lev + 1) qt ns f vs hp X Q := by
  have h := h _ ⟨rfl⟩
  unfold Ss at h
  exact callOK_of D hl fun fx F hpg hns hlev hqt hsc hL => h fx ⟨F, hpg, hsc, hns, Nat.le_of_eq hlev.symm, hqt, hok⟩ hL


/-- the law, by its rules -/
theorem law_go {pg : Pg} {s₁ : Shared} {law : Str} {f fa a : Addr} {x : Str} {body : List Stmt} {scope : Scope} {vals : List Value} {ns : List Int} {R : Result → Shared → Prop}
    (T : Top pg.p pg.loose pg.mean pg.mg pg.mb s₁.heap) (KX : pg.K.In s₁.heap) (hmg : pg.mg law = some (.ref fa)) (hL : s₁.heap.IsList a vals.toArray) (hI : IntsAre vals ns) (hn : ns.length ≤ 63) (hgl : nsIn pg.K mainGlobals law = some (some (.ref f))) (D : FnAt pg f [x] body scope) (hok : nmsOk scope = true)
    (hR : ∀ s' m', Fr s₁.heap s₁.heap.objs.size s'.heap m' → s'.gens = s₁.gens → s'.os = s₁.os → R (.ok (.ret (.bool true))) s')
    (h : ∀ c, CxIs c pg scope ns 600 true → Ss c X0 body (bindV [x] [.scr] fun _ => none) [] (fun fl _ _ => fl = .ret (.bool true))) :
    codeAny (model pg.prog pg.w) callerA (.call (.ref fa) ⟨[.ref a], []⟩) R s₁ := by
  have h := h _ ⟨rfl⟩
  unfold Ss at h
  exact law_run T KX hgl hmg D hok hL hI hn (fun fx F hL => h fx F hL) hR


theorem lay_ints : ∀ ns : List Int, PyData.canLayAll0 (ns.map .int) = true ∧ PyData.depthAll (ns.map .int) ≤ 1
  | [] => ⟨by simp [PyData.canLayAll0], by simp [PyData.depthAll]⟩
  | n :: r => by
    have := lay_ints r
    simp [PyData.canLayAll0, PyData.depthAll, PyData.canLay0, PyData.depth, this.1] at *
    omega
theorem shaped_ints (ns : List Int) : PySem.SeqAt.shaped (.list (ns.map .int)) = true := by
  have := lay_ints ns
  simp [PySem.SeqAt.shaped, PyData.canLay0, PyData.depth, this.1]
  omega
section
variable {c : Cx} {X : XP} {l : Lo} {hp : List O} {K : KV}
theorem cmp_ints_eq {i j : Nat} {xs ys : List Int} (h1 : hp[i]? = some (.list (xs.map .int))) (h2 : hp[j]? = some (.list (ys.map .int))) (h : K (.bool (decide (xs = ys))) l hp) : Cmp c X .Eq (.ref i) (.ref j) l hp K :=
  cmp_deq (.list h1 (dats_ints hp xs)) (.list h2 (dats_ints hp ys)) (shaped_ints xs) (shaped_ints ys) (by rw [show PyData.eqv (.list (xs.map .int)) (.list (ys.map .int)) = decide (xs = ys) by rw [PyData.eqv]; exact ked_eqvAll xs ys]; exact h)
theorem cmp_ints_ne {i j : Nat} {xs ys : List Int} (h1 : hp[i]? = some (.list (xs.map .int))) (h2 : hp[j]? = some (.list (ys.map .int))) (h : K (.bool (!decide (xs = ys))) l hp) : Cmp c X .NotEq (.ref i) (.ref j) l hp K :=
  cmp_dne (.list h1 (dats_ints hp xs)) (.list h2 (dats_ints hp ys)) (shaped_ints xs) (shaped_ints ys) (by rw [show PyData.eqv (.list (xs.map .int)) (.list (ys.map .int)) = decide (xs = ys) by rw [PyData.eqv]; exact ked_eqvAll xs ys]; exact h)
end
end Mine

set_option autoImplicit false
namespace Mine
open PySem PySem.W PySem.Calls PySem.Spec PyProof.Rows

/-- a value of the plain kinds -/
def Plain (hp : List O) : V → Prop
  | .int _ | .bool _ | .str _ | .none | .tup _ => True
  | .ref j => ∃ ys, hp[j]? = some (.list ys)
  | _ => False

section
variable {c : Cx} {X : XP} {l : Lo} {hp : List O} {K : KV} {p q : Pos} {pg : Pg} {sc : Scope} {ns : List Int} {lev : Nat} {qt : Bool}

theorem sb_all {i : Nat} {vs : List V} {k : Int} (e : hp[i]? = some (.list vs)) (s : Side (0 ≤ k ∧ k < vs.length ∧ vs.length < 2 ^ 62)) (h : ∀ v ∈ vs, K v l hp) : Sub c X (.ref i) (.int k) l hp K := by
  have hk : k.toNat < vs.length := by have := s.h; omega
  exact sb_ref e ⟨by have := s.h; omega⟩ (List.getElem?_eq_getElem hk) (h _ (List.getElem_mem hk))
theorem cb_len_int {i : Nat} {xs : List Int} (e : hp[i]? = some (.list (xs.map .int))) (s : Side (xs.length < 2 ^ 62)) (h : K (.int xs.length) l hp) : CB c X "len" [.ref i] l hp K :=
  cb_len_ref e ⟨by have := s.h; rw [List.length_map]; omega⟩ (by rw [List.length_map]; exact h)
theorem ints_of {R : Nat → Int → Prop} : ∀ {vs : List V}, (∀ (j : Nat) (hj : j < vs.length), ∃ x, vs[j] = .int x ∧ R j x) → ∃ ys : List Int, vs = ys.map .int ∧ ∀ (j : Nat) (hj : j < ys.length), R j ys[j] := by
  intro vs
  induction vs generalizing R with
  | nil => intro _; exact ⟨[], rfl, fun j hj => by simp at hj⟩
  | cons v vs ih =>
    intro h
    obtain ⟨x, e, r⟩ := h 0 (by simp)
    obtain ⟨ys, e', r'⟩ := ih (R := fun j => R (j + 1)) fun j hj => h (j + 1) (Nat.succ_lt_succ hj)
    simp at e
    subst e; subst e'
    refine ⟨x :: ys, rfl, fun j hj => ?_⟩
    cases j with
    | zero => exact r
    | succ j => exact r' j (Nat.lt_of_succ_lt_succ hj)
/-- the same, of numbers -/
theorem comp_ints (hc : CxIs c pg sc ns lev qt) {elt t : Expr} {csc : Scope} {its : List V} {need : St → Prop} {K : List O → Prop} (ck : compCk sc csc t = true) (R : Nat → Int → Prop) (hl : its.length ≤ sizeLine) (hneed : ∀ vs : List V, need ⟨l, hp ++ [.list vs]⟩)
    (turn : ∀ (k : Nat) (hk : k < its.length) (vs : List V), vs.length = k → ∃ bs, tgtV t its[k] = some bs ∧ ∀ c', CxIs c' pg (relab csc) ns lev qt → E c' X0 elt (setAll (compLoc csc l) bs) (hp ++ [.list vs]) (fun v _ hp' => hp' = hp ++ [.list vs] ∧ ∃ x, v = .int x ∧ R k x))
    (fin : ∀ ys : List Int, ys.length = its.length → (∀ (j : Nat) (hj : j < ys.length), R j ys[j]) → K (hp ++ [.list (ys.map .int)])) : Comp c elt t [] csc its need l hp K :=
  comp_gen hc ck (fun k v => ∃ x, v = .int x ∧ R k x) hl hneed (fun k hk vs hv _ => turn k hk vs hv) fun vs hv hR => by
    obtain ⟨ys, rfl, r⟩ := ints_of hR
    exact fin ys (by simpa using hv) r
theorem setN_same {l : Lo} {x : Str} {v : V} : setN l x v x = some v := by unfold setN; rw [if_pos rfl]
theorem setN_ne {l : Lo} {a b : String} {w : V} (h : (a == b) = false) : setN l (Str.ofString b) w (Str.ofString a) = l (Str.ofString a) := by
  unfold setN
  rw [if_neg (fun q => by rw [ofString_inj] at q; subst q; simp at h)]
theorem bind_c {xs : List Str} {vs : List V} {x : Str} {v : V} {l : Lo} {y : Str} : bindV (x :: xs) (v :: vs) l y = bindV xs vs (setN l x v) y := rfl
theorem bind_n {l : Lo} {y : Str} : bindV [] [] l y = l y := rfl
theorem all_c {r : List (Str × V)} {x : Str} {v : V} {l : Lo} {y : Str} : setAll l ((x, v) :: r) y = setAll (setN l x v) r y := rfl
theorem all_n {l : Lo} {y : Str} : setAll l [] y = l y := rfl
theorem compLoc_eq {csc : Scope} {l : Lo} {x : Str} (h : csc.names.lookup x = some .free) : compLoc csc l x = l x := by
  unfold compLoc
  rw [if_pos h]
theorem app_get {hp t : List O} {i : Nat} {o : O} (h : hp[i]? = some o) : (hp ++ t)[i]? = some o := prefix_get (List.prefix_append _ _) h
theorem app_new {hp : List O} {o : O} : (hp ++ [o])[hp.length]? = some o := by simp
theorem get_lt {hp : List O} {i : Nat} {o : O} (h : hp[i]? = some o) : i < hp.length := by
  rcases Nat.lt_or_ge i hp.length with q | q
  · exact q
  · rw [List.getElem?_eq_none q] at h; cases h
end
end Mine

set_option autoImplicit false
namespace Mine
/-! the ridge -/
/-! what hides a hill -/
/-! what is seen later, earlier -/
open Classical in
open Classical in
open Classical in
open Classical in
open Classical in
/-! the tower -/
end Mine

set_option autoImplicit false
namespace Mine
open Classical

/-! the fewest hops -/
section
variable {f : Int → Int} {n : Nat} {a L : Int} {row fresh so : List Int} {k : Nat} {d : Int → Int}
end
end Mine

set_option autoImplicit false
namespace Mine
open PySem PySem.W

def Keep (hp hp' : List O) : Prop := ∀ (q : Nat) (o : O), hp[q]? = some o → hp'[q]? = some o
theorem Keep.refl {hp : List O} : Keep hp hp := fun _ _ h => h
theorem Keep.app {hp hp' t : List O} (h : Keep hp hp') : Keep hp (hp' ++ t) := fun q o e => app_get (h q o e)
theorem Keep.trans {a b c : List O} (h : Keep a b) (h' : Keep b c) : Keep a c := fun q o e => h' q o (h q o e)
theorem set_get {hp : List O} {i j : Nat} {o o' : O} (h : hp[j]? = some o) (ne : i ≠ j) : (hp.set i o')[j]? = some o := by rw [List.getElem?_set_ne ne]; exact h
theorem set_at {hp : List O} {i : Nat} {o o' : O} (h : hp[i]? = some o) : (hp.set i o')[i]? = some o' := by
  rw [List.getElem?_set_self (get_lt h)]
theorem Keep.set {hp hp' : List O} {i : Nat} {o : O} (h : Keep hp hp') (hi : hp.length ≤ i) : Keep hp (hp'.set i o) := fun q o' e => set_get (h q o' e) (by have := get_lt e; omega)
end Mine

set_option autoImplicit false
namespace Mine
open Classical

/-! the way of the fewest hops -/
/-! the rounds of the other reckoning -/
section
variable {f d e : Int → Int} {n : Nat} {b m h : Int}
end
/-! on a line -/
end Mine

set_option autoImplicit false
namespace Mine
open PySem PySem.W PySem.Calls PySem.Spec PyProof.Rows
section
variable {c : Cx} {X : XP} {l : Lo} {hp : List O} {pg : Pg} {sc : Scope} {ns : List Int} {lev : Nat} {qt : Bool}
end
end Mine

set_option autoImplicit false
namespace Mine
open Classical

/-! the pairs that see each other -/
/-! a line, a curve -/
end Mine

set_option autoImplicit false
namespace Mine
open Classical

/-! a land tilted, stretched, turned -/
end Mine

set_option autoImplicit false
namespace Mine
open Classical

/-! the fewest hops are there -/
end Mine

set_option autoImplicit false
namespace Mine
open PySem PySem.W PySem.Calls PySem.Spec PyProof.Rows

/-! a chain of three comparisons; pairs in order -/
section
variable {fx : Fx} {X : XP} {σ : St} {W : Wd} {s : Shared}
end
section
variable {c : Cx} {X : XP} {l : Lo} {hp : List O} {K : KV} {p : Pos}
end
end Mine

set_option autoImplicit false
namespace Mine
open PySem PySem.W PySem.Calls PySem.Spec PyProof.Rows

/-! dicts whose keys are tuples of numbers -/
section
variable {fx : Fx} {X : XP} {σ : St} {W : Wd} {s : Shared}
end
section
variable {c : Cx} {X : XP} {l : Lo} {hp : List O} {K : KV} {p : Pos}
end
end Mine

set_option autoImplicit false
namespace Mine
open PySem PySem.W PySem.Calls PySem.Spec PyProof.Rows

/-! lists of pairs of numbers -/
section
variable {c : Cx} {X : XP} {l : Lo} {hp : List O} {K : KV}
end
end Mine

set_option autoImplicit false
namespace Mine
open PySem PySem.W PySem.Calls PySem.Spec PyProof.Rows

/-! the sort of a list, by a key that tells any two items apart -/
section
variable {prog : Program} {w : World} {A : Around} {E : Value → Shared → Prop} {s : Shared} {κ : SortKind} {key : Value → Int} {a₀ : Array Keyed} {st : SortSt}
end
end Mine

set_option autoImplicit false
namespace Mine
open PySem PySem.W PySem.Calls PySem.Spec PyProof.Rows

section
variable {prog : Program} {w : World} {A : Around} {E : Value → Shared → Prop} {s : Shared} {κ : SortKind} {key : Value → Int} {a₀ : Array Keyed} {st : SortSt}
end
end Mine

set_option autoImplicit false
namespace Mine
open PySem PySem.W PySem.Calls PySem.Spec PyProof.Rows

/-! two sorted rows are joined -/
section
variable {key : Value → Int}
variable {a b out : Array Keyed} {ia ib k : Nat} {x : Keyed}
end
end Mine

set_option autoImplicit false
namespace Mine
open PySem PySem.W PySem.Calls PySem.Spec PyProof.Rows

section
variable {prog : Program} {w : World} {A : Around} {E : Value → Shared → Prop} {s : Shared} {κ : SortKind} {key : Value → Int} {a₀ : Array Keyed} {st st' : SortSt}
end
end Mine

set_option autoImplicit false
namespace Mine
open PySem PySem.W PySem.Calls PySem.Spec PyProof.Rows

/-! the same from behind -/
section
variable {key : Value → Int}
variable {a b out : Array Keyed} {na nb k : Nat} {x : Keyed}
end
end Mine

set_option autoImplicit false
namespace Mine
open PySem PySem.W PySem.Calls PySem.Spec PyProof.Rows

section
variable {prog : Program} {w : World} {A : Around} {E : Value → Shared → Prop} {s : Shared} {κ : SortKind} {key : Value → Int} {a₀ : Array Keyed} {st st' : SortSt}
end
end Mine

set_option autoImplicit false
namespace Mine
open PySem PySem.W PySem.Calls PySem.Spec PyProof.Rows

section
variable {prog : Program} {w : World} {A : Around} {E : Value → Shared → Prop} {s : Shared} {κ : SortKind} {key : Value → Int} {a₀ : Array Keyed} {st : SortSt}
end
end Mine

set_option autoImplicit false
namespace Mine
open PySem PySem.W PySem.Calls PySem.Spec PyProof.Rows

section
variable {prog : Program} {w : World} {A : Around} {E : Value → Shared → Prop} {s : Shared} {κ : SortKind} {key : Value → Int} {a₀ : Array Keyed} {st : SortSt}
end
end Mine

set_option autoImplicit false
namespace Mine
open PySem PySem.W PySem.Calls PySem.Spec PyProof.Rows

/-! sorted, of a list of pairs -/
section
variable {prog : Program} {w : World} {A : Around} {E : Value → Shared → Prop} {s : Shared}
end
section
variable {fx : Fx} {X : XP} {σ : St} {W : Wd} {s : Shared}
end
section
variable {c : Cx} {X : XP} {l : Lo} {hp : List O} {K : KV}
end
end Mine

set_option autoImplicit false
namespace Mine
open PySem PySem.W PySem.Calls PySem.Spec PyProof.Rows

section
variable {fx : Fx} {A : Around} {lev : Nat} {σ : St} {W : Wd} {s : Shared} {m : Str → Option Value} {news : List (Addr × Obj)}
end

end Mine

set_option autoImplicit false
namespace Mine
open PySem PySem.W PySem.Calls PySem.Spec PyProof.Rows

section
variable {fx : Fx} {X : XP} {σ : St}
end
end Mine

set_option autoImplicit false
namespace Mine
open PySem PySem.W PySem.Calls PySem.Spec PyProof.Rows

section
variable {fx : Fx} {X : XP} {σ : St}
end
end Mine

set_option autoImplicit false
namespace Mine
open PySem PySem.W PySem.Calls PySem.Spec PyProof.Rows
section
variable {fx : Fx} {X : XP} {σ : St}
end
section
variable {c : Cx} {X : XP} {l : Lo} {hp : List O} {K : KV} {p q r : Pos} {pg : Pg} {sc : Scope} {ns : List Int} {lev : Nat} {qt : Bool}
end
end Mine

set_option autoImplicit false
namespace Mine
open PySem PySem.W PySem.Calls PySem.Spec PyProof.Rows
section
variable {fx : Fx} {X : XP} {σ : St}
end
section
variable {c : Cx} {X : XP} {l : Lo} {hp : List O} {K : KV}
end
end Mine

set_option autoImplicit false
namespace Mine
open PySem PySem.W PySem.Calls PySem.Spec PyProof.Rows

section
variable {fx : Fx} {X : XP} {σ : St}
end
section
variable {c : Cx} {X : XP} {l : Lo} {hp : List O} {K : KV} {p q r p1 p2 : Pos} {pg : Pg} {sc : Scope} {ns : List Int} {lev : Nat} {qt : Bool}
theorem isi_ss {a : Str} (h : K (.bool true) l hp) : CB c X "isinstance" [.str a, .glob (.type "str")] l hp K := by unfold CB; exact fun _ _ => isi_of (fun W s u Q E R r q => by cases r; exact IsiPair.str_str (q _)) h
end
end Mine

set_option autoImplicit false
namespace Mine
open PySem PySem.W PySem.Calls PySem.Spec PyProof.Rows

/-! a heap that changes at some places alone -/
/-! a land -/
section
variable {hp hp' : List O} {C : Addr} {i j h t : Nat} {xs : List Int} {ds : List (Int × Int)}
end

/-! what the lifts do -/
/-! what was told -/
/-! law 10: what its names and its heap hold -/
section
variable {C : Addr} {N bb dk : Nat} {b0 ks : List Int} {hp hp' : List O} {k : Nat} {xs xs' x2 x2' : List Int} {ds ds' d2 d2' : List (Int × Int)} {vs vs' : List V}
end
end Mine

set_option autoImplicit false
namespace Mine
open PySem PySem.W PySem.Calls PySem.Spec PyProof.Rows

/-! a comprehension in which an exception may be raised -/
def Heap.less (h : Heap) (C : Addr) : Heap := h.update C fun o => { o with data := .freed }
theorem less_ne {h : Heap} {C b : Addr} (hb : b ≠ C) : (Heap.less h C).get? b = h.get? b := Heap.get?_update_other h _ (Ne.symm hb)
theorem less_self (h : Heap) (C : Addr) : (Heap.less h C).get? C = none := by
  unfold Heap.less
  cases h with
  | mk objs l =>
    simp only [Heap.update, Heap.get?, Array.getElem?_modify, if_true]
    cases objs[C]? <;> rfl
theorem less_none {h : Heap} {C b : Addr} (e : h.get? b = none) : (Heap.less h C).get? b = none := by
  by_cases q : b = C
  · rw [q]; exact less_self h C
  · rw [less_ne q]; exact e
theorem less_some {h : Heap} {C b : Addr} {o : Obj} (e : (Heap.less h C).get? b = some o) : b ≠ C ∧ h.get? b = some o := by
  by_cases q : b = C
  · rw [q, less_self] at e; cases e
  · rw [less_ne q] at e; exact ⟨q, e⟩

section
variable {M : Model} {A : Around} {E : Value → Shared → Prop} {s : Shared} {env : Env}
/-- what is asked when a comprehension's loop ends -/
def cPost (M : Model) (A : Around) (E : Value → Shared → Prop) (Q : Value → Shared → Prop) (acc : Value) (cenv : Env) (r : Result) (s' : Shared) : Prop :=
  match r with
  | .ok _ => ∃ m, s'.heap.Ns cenv.locals m ∧ ∀ h', Heap.SameBut cenv.locals s'.heap h' → Q acc { s' with heap := h' }
  | .error x => ∃ m, s'.heap.Ns cenv.locals m ∧ ∀ h', Heap.SameBut cenv.locals s'.heap h' → wpAny M A (passOn "comprehension.variables-let-go" x cenv : Sem Value) (fun _ _ => False) E { s' with heap := h' }
theorem comp_freeX {e : Expr} {scope : Scope} {pos : Pos} {newAcc first : Sem Value} {gn : Comprehension} {gs : List Comprehension} {cl : List (Str × Addr)} {Q : Value → Shared → Prop}
    (hcl : clausesOf e = gn :: gs) (hs : ∀ x, foldedSetIterable gn.iter env x = pure x) (hclos : closureFor scope env = pure cl) (hkind : scope.kind = .function) (hnames : ∀ x ∈ scope.names, x.2 = .local → scope.names.lookup x.1 = some .local)
    (h : wpAny M A first (fun x s₁ => wpAny M A (pyIter x) (fun it s₂ => wpAny M A newAcc (fun acc s₃ =>
      wpAny M A (newFunctionEnv scope env.globals cl [] env.qual none .none (some env)) (fun cenv s₄ =>
        codeAny M A (.compStart e 0 it acc { cenv with scope := relabel scope env }) (cPost M A E Q acc { cenv with scope := relabel scope env }) s₄) E s₃) E s₂) E s₁) E s) :
    wpAny M A (comprehension e scope env pos newAcc false first none) Q E s := by
  unfold comprehension
  rw [hclos, hcl]
  refine wpAny_bind (wpAny_mono h (fun x s₁ h₁ => wpAny_bind (wpAny_standAt (wpAny_bind (wpAny_of_eq (hs x) (wpAny_bind (wpAny_holding (wpAny_mono h₁ (fun it s₂ h₂ =>
    wpAny_standIf (wpAny_bind (wpAny_mono h₂ (fun acc s₃ h₃ => wpAny_bind (wpAny_pure (wpAny_bind (wpAny_mono h₃ (fun cenv s₄ h₄ => ?_) fun _ _ h' => h')))) fun _ _ h' => h')))
      fun _ _ h' => h'))))))) fun _ _ h' => h')
  dsimp only
  have own : ∀ x ∈ (scope.names.filter fun x => (x.2 == .local || x.2 == .cell) && x.1 != (".0" : Str)).reverse, x.2 = .local →
      Env.kindOf { cenv with scope := relabel scope env } x.1 = some .local := fun x hx hl => lookup_relabel_local (hnames x (List.mem_filter.mp (List.mem_reverse.mp hx)).1 hl)
  refine wpAny_holding (wpAny_bind (wpAny_attempt (wpAny_holding (wpAny_run (codeAny_mono h₄ fun r s' hr => ?_)))))
  cases r with
  | ok f =>
    obtain ⟨m, hn, hr⟩ := hr
    exact wpAny_bind (wpAny_holding (wpAny_comp_letGo (cenv := { cenv with scope := relabel scope env }) hkind _ s' m own hn fun h' m' _ hs' => wpAny_pure (hr h' hs')))
  | error x =>
    obtain ⟨m, hn, hr⟩ := hr
    exact wpAny_bind (wpAny_holding (wpAny_comp_letGo (cenv := { cenv with scope := relabel scope env }) hkind _ s' m own hn fun h' m' _ hs' => wpAny_mono (hr h' hs') (fun _ _ f => f.elim) fun _ _ y => y))
end

section
variable {fx : Fx} {X : XP} {σ : St} {W : Wd} {s : Shared}
theorem Core.exDrop {m : Str → Option Value} {news ps : List (Addr × Obj)} (C : Core (fx.pushL ps) σ W m news) (ok : ExOk fx ps) : Core fx σ W m (news.filter fun p => decide (p.1 ∉ ps.map (·.1))) := by
  have hal : ∀ a ∈ W.al, a ∉ ps.map (·.1) := fun a ha q => by
    obtain ⟨o, ho⟩ := mem_keys q
    exact C.exd _ (List.mem_append_left _ ho) ha
  have keepM : ∀ p ∈ news, p.1 ∉ ps.map (·.1) → p ∈ news.filter fun p => decide (p.1 ∉ ps.map (·.1)) := fun p hp q => List.mem_filter.mpr ⟨hp, by simpa using q⟩
  refine ⟨nodup_filter_keys C.nd _, fun p hp => keepM p (C.exs p (List.mem_append_right _ hp)) (ok.dis p hp), fun p hp => C.exd p (List.mem_append_right _ hp), C.aln, C.len, fun i o h => ?_, fun t ht' => ?_, fun x v h => ?_, fun x c h => ?_, C.scc, C.mfx, fun p hp t ht' => C.ext p (List.mem_append_right _ hp) t ht'⟩
  · obtain ⟨a, ob, h1, h2, h3⟩ := C.obs i o h
    exact ⟨a, ob, h1, keepM _ h2 (hal a (List.mem_of_getElem? h1)), h3⟩
  · refine keepM _ (C.tps t ht') fun q => ?_
    obtain ⟨o, ho⟩ := mem_keys q
    exact C.ext _ (List.mem_append_left _ ho) t ht' rfl
  · obtain ⟨u, h1, h2⟩ := C.loc x v h
    refine ⟨u, h1, ?_⟩
    cases h2 with
    | loc a b c => exact .loc a b c
    | @comp o a b c =>
      refine .comp (o := o) a ?_ c
      rcases List.mem_append.mp b with b | b
      · exact absurd (List.mem_map_of_mem (f := (·.1)) b) ok.loc
      · exact b
    | cell a b c d => exact .cell a b (keepM _ c (ok.cel x _ b)) d
  · obtain ⟨h1, o, v, h2, h3⟩ := C.cel x c h
    exact ⟨h1, o, v, keepM _ h2 (ok.cel x c h), h3⟩
theorem XRep.exAt {ps : List (Addr × Obj)} {e : Addr} {cls : Value} {k : Kd} (x : XRep (fx.pushL ps) σ W e cls k s) {p : Addr × Obj} (hp : p ∈ ps) : s.heap.get? p.1 = some p.2 := by
  obtain ⟨r, g, m, news, B, c, f⟩ := x
  exact f.stays.1 _ _ (c.nw p (c.core.exs p (List.mem_append_left _ hp))).1
/-- the comprehension's names go while the exception flies -/
theorem XRep.drop (all : FxAll fx) {ps : List (Addr × Obj)} {e C : Addr} {oC : Obj} {cls : Value} (x : XRep (fx.pushL ps) σ W e cls .held s) (ok : ExOk fx ps) (hC : (C, oC) ∈ ps) {h' : Heap} (hs : ∀ b, b ≠ C → h'.get? b = s.heap.get? b) : XRep fx σ W e cls .held { s with heap := h' } := by
  obtain ⟨r, g, m, news, B, c, f⟩ := x
  have hCn := c.nw _ (c.core.exs _ (List.mem_append_left _ hC))
  have gC : ∀ {b : Addr} {o : Obj}, g.get? b = some o → b ≠ C := fun e q => by rw [q, hCn.2.2] at e; cases e
  have bC : ∀ {b : Addr}, B.get? b = none → b ≠ C := fun e q => by rw [q, hCn.1] at e; cases e
  have bsC : ∀ {b : Addr} {o : Obj}, fx.base.get? b = some o → b ≠ C := fun e => gC ((all.ground c.turn).1.stays _ _ e)
  refine ⟨rest_heap r _, g, m, news.filter (fun p => decide (p.1 ∉ ps.map (·.1))), Heap.less B C, ⟨c.turn, c.dic, c.size, ?_, fun b o e q => ?_, fun b o e => ?_, fun p hp => ?_, c.core.exDrop ok, fun b o e => ?_⟩, ?_⟩
  · exact c.ns.at' fun o q => (hs _ (Ne.symm hCn.2.1)).trans q
  · rw [less_ne (gC e)]; exact c.gB b o e q
  · obtain ⟨sl, e1⟩ := c.fr b o e
    exact ⟨sl, (hs _ (gC e)).trans e1⟩
  · obtain ⟨h1, h2⟩ := List.mem_filter.mp hp
    have hne : p.1 ≠ C := fun q => by
      simp only [decide_eq_true_eq] at h2
      exact h2 (q ▸ List.mem_map_of_mem (f := (·.1)) hC)
    have := c.nw p h1
    exact ⟨by rw [less_ne hne]; exact this.1, this.2⟩
  · rw [less_ne (bsC e)]; exact c.base b o e
  · cases f with
    | @held a0 f =>
      obtain ⟨f1, f2, f3, oe, vs, T, oT, ts, q1, q2, q3, q4, q5, q6, q7, q8, q9⟩ := f
      refine .held (a0 := a0) ⟨fun b o e => ?_, less_none f2, ?_, oe, vs, T, oT, ts, (hs _ (bC f2)).trans q1, q2, q3, q4, less_none q5, q6, (hs _ (bC q5)).trans q7, q8, q9⟩
      · obtain ⟨n, e'⟩ := less_some e
        exact (hs _ n).trans (f1 b o e')
      · have key : ∀ l : List Env, s.heap.FunFrames B l → h'.FunFrames (Heap.less B C) l := by
          intro l
          induction l with
          | nil => exact fun _ => trivial
          | cons env rest ih =>
            rintro ⟨k1, ⟨L, o, k2, k3, k4, k5⟩, k6⟩
            exact ⟨k1, ⟨L, o, k2, less_none k3, (hs _ (bC k3)).trans k4, k5⟩, ih k6⟩
        exact key _ f3
theorem XRep.goes (all : FxAll fx) (hL : fx.env.locals = fx.L) {scope : Scope} {cl : List (Str × Addr)} {C e : Addr} {cls : Value} (x : XRep fx σ W e cls .held s) {W₀ : Wd} (le : W₀.le W) (hX : X cls σ) : wpAny fx.M fx.A (passOn "comprehension.variables-let-go" (.ref e) (compEnvC scope cl C fx.env) : Sem Value) (fun _ _ => False) (PX fx W₀ X) s := by
  obtain ⟨r, g, m, news, B, c, f⟩ := x
  have hfr : (compEnvC scope cl C fx.env).frame = some fx.L := by
    show fx.env.frame = _
    rw [all.envf hL]; exact all.ffr
  cases f with
  | @held a0 y =>
    obtain ⟨_, _, _, oe, vs, T, oT, ts, y1, y2, y3, y4, _⟩ := id y
    unfold PySem.passOn
    refine wpAny_bind (wpAny_field y1 y3 y4 ?_)
    rw [if_neg (show ¬ ((Value.ref T == Value.none) = true) from by simp)]
    refine wpAny_bind ?_
    rw [hfr]
    refine setFlightHeld y fun h₂ x₂ u₂ => wpAny_throw ?_
    exact ⟨e, cls, .held, W, σ, rfl, le, ⟨rest_heap r _, g, m, news, B, c.up all.ffr x₂.1 u₂, .held x₂⟩, hX⟩
end
end Mine

set_option autoImplicit false
namespace Mine
open PySem PySem.W PySem.Calls PySem.Spec PyProof.Rows
section
variable {fx : Fx} {X : XP} {σ : St} {W : Wd} {s : Shared}
/-- into a comprehension's frame and back, with an exception too -/
theorem toCX (all : FxAll fx) {scope : Scope} (co : CompOk fx.env scope) {C : Addr} {oC : Obj} {qs : List (Addr × Obj)} (hin : (C, oC) ∈ qs) (R : Rep (fx.pushL qs) σ W s) {l : Str → Option V} (hl : CLR W l oC)
    (hloc : ∀ y v, l y = some v → scope.names.lookup y = some .local) {l' : Str → Option V} (hl' : ∀ y v, l' y = some v → l y = some v ∨ compLoc scope σ.loc y = some v) :
    ∃ fc : Fx, FxAll fc ∧ fc.pg = fx.pg ∧ fc.ns = fx.ns ∧ fc.lev = fx.lev ∧ fc.env = compEnvC scope (clOf fx.env scope.names []) C fx.env ∧ fc.A = fx.A ∧ fc.qt = fx.qt ∧ Rep fc ⟨l', σ.hp⟩ W s ∧
      (∀ σ' W' s', W.le W' → Rep fc σ' W' s' → Rep (fx.pushL qs) ⟨σ.loc, σ'.hp⟩ W' s') ∧
      (∀ σ' W' s' e cls k, W.le W' → XRep fc σ' W' e cls k s' → XRep (fx.pushL qs) ⟨σ.loc, σ'.hp⟩ W' e cls k s') ∧ fc.fenv = fx.fenv ∧ fc.outer = fx.outer ∧ fc.L = fx.L := by
  have hfree : ∀ n, (n, NameKind.free) ∈ scope.names → fx.env.cells.lookup n ≠ none := fun n hn => all.cdef n (co.free n (co.frees _ hn rfl))
  refine R.elim fun e g m news G F N Co => ?_
  have hCL : C ≠ fx.L := (N _ (Co.exs _ (List.mem_append_left _ hin))).2.1
  let cf : Addr × Obj → Bool := fun p => fx.env.cells.any fun q => decide (fx.env.cells.lookup q.1 = some p.1)
  have cellIn : ∀ x c o, fx.env.cells.lookup x = some c → (c, o) ∈ news → (c, o) ∈ news.filter cf := fun x c o h1 h2 =>
    List.mem_filter.mpr ⟨h2, List.any_eq_true.mpr ⟨_, lookup_mem h1, decide_eq_true h1⟩⟩
  have coreBack : ∀ σ' W' news', W.le W' → Core (fxC fx scope C (qs ++ fx.ex ++ news.filter cf) m) σ' W' m news' → Core (fx.pushL qs) ⟨σ.loc, σ'.hp⟩ W' m news' := by
    intro σ' W' news' le Co'
    refine ⟨Co'.nd, fun p hp => Co'.exs p (List.mem_append_left _ hp), fun p hp => Co'.exd p (List.mem_append_left _ hp), Co'.aln, Co'.len, Co'.obs, Co'.tps, fun x v h => ?_, fun x c h => ?_, Co'.scc, Co.mfx, fun p hp t ht => Co'.ext p (List.mem_append_left _ hp) t ht⟩
    · obtain ⟨u, h1, h2⟩ := Co.loc x v h
      refine ⟨u, h1.mono le, ?_⟩
      cases h2 with
      | loc a b c => exact .loc a b c
      | comp a b c => exact .comp a b c
      | cell a b c d => exact .cell a b (Co'.exs _ (List.mem_append_right _ (cellIn _ _ _ b c))) d
    · obtain ⟨_, o, v, h2, h3⟩ := Co.cel x c h
      have hin' : (c, o) ∈ qs ++ fx.ex ++ news.filter cf := List.mem_append_right _ (cellIn x c o h h2)
      exact ⟨Co'.exd _ hin', o, v, Co'.exs _ hin', h3⟩
  refine ⟨fxC fx scope C (qs ++ fx.ex ++ news.filter cf) m, fxC_all all co (oC := oC) (List.mem_append_left _ (List.mem_append_left _ hin)) hCL, rfl, rfl, rfl, rfl, rfl, rfl, ?_, ?_, ?_, rfl, rfl, rfl⟩
  · refine ⟨e, g, m, news, G, F, N, Co.nd, fun p hp => ?_, fun p hp => ?_, Co.aln, Co.len, Co.obs, Co.tps, fun x v h => ?_, fun x c h => ?_, Co.scc, fun m₀ q => Option.some.inj q, fun p hp t ht => ?_⟩
    · exact (List.mem_append.mp hp).elim (Co.exs p) fun q => (List.mem_filter.mp q).1
    · refine (List.mem_append.mp hp).elim (Co.exd p) fun q => ?_
      obtain ⟨e, _, e1⟩ := List.any_eq_true.mp (List.mem_filter.mp q).2
      exact (Co.cel _ _ (of_decide_eq_true e1)).1
    · rcases hl' x v h with h | h
      · obtain ⟨u, h1, h2⟩ := hl x v h
        exact ⟨u, h1, .comp (lookup_relabel_local (hloc x v h)) (List.mem_append_left _ (List.mem_append_left _ hin)) h2⟩
      · unfold compLoc at h
        split at h
        · rename_i hf
          obtain ⟨u, h1, h2⟩ := Co.loc x v h
          refine ⟨u, h1, ?_⟩
          have hc := co.free x hf
          cases h2 with
          | loc a b c => rw [show fx.env.kindOf x = some .local from a] at hc; cases hc
          | comp a b c => rw [show fx.env.kindOf x = some .local from a] at hc; cases hc
          | @cell c o a b d f =>
            have hs := clOf_some (env := fx.env) (x := x) scope.names [] (.inl (lookup_mem hf))
            obtain ⟨c', hc'⟩ := Option.isSome_iff_exists.mp hs
            have := cells_in hfree hc'
            rw [show fx.env.cells.lookup x = some c from b] at this
            cases this
            refine .cell (.inl ?_) hc' d f
            show (relabel scope fx.env).names.lookup x = some .cell
            rw [relabel_lookup, hf]
            simp [all.ok.kind, hc]
        · cases h
    · exact Co.cel x c (cells_in hfree h)
    · refine (List.mem_append.mp hp).elim (fun q => Co.ext p q t ht) fun q z => ?_
      obtain ⟨e, _, e1⟩ := List.any_eq_true.mp (List.mem_filter.mp q).2
      obtain ⟨_, o, v, h2, h3⟩ := Co.cel _ _ (of_decide_eq_true e1)
      have h4 := Co.tps t ht
      rw [← z] at h4
      rw [key_inj Co.nd h2 h4] at h3
      cases h3
  · intro σ' W' s' le R'
    refine R'.elim fun e' g' m' news' G' F' N' Co' => ?_
    obtain rfl : m' = m := Co'.mfx m rfl
    exact ⟨e', g', m', news', G', F', N', coreBack σ' W' news' le Co'⟩
  · rintro σ' W' s' e cls k le ⟨r', g', m', news', B', c', f'⟩
    obtain rfl : m' = m := c'.core.mfx m rfl
    exact ⟨r', g', m', news', B', ⟨c'.turn, c'.dic, c'.size, c'.ns, c'.gB, c'.fr, c'.nw, coreBack σ' W' news' le c'.core, c'.base⟩, f'⟩

/-- what a comprehension's turns do, or raise -/
def CompJX (fx : Fx) (X : XP) (elt t : Expr) (scope : Scope) (its : List V) (need : St → Prop) (σ₁ : St) (J : Nat → List O → Prop) : Prop :=
  J 0 (σ₁.hp ++ [.list []]) ∧ (∀ k hp, J k hp → need ⟨σ₁.loc, hp⟩) ∧ its.length ≤ sizeLine ∧
  ∀ (k : Nat) hp (hk : k < its.length), J k hp → ∃ bs, tgtV t its[k] = some bs ∧ (∀ b ∈ bs, scope.names.lookup b.1 = some .local) ∧
    ∀ fc : Fx, FxAll fc → fc.pg = fx.pg → fc.ns = fx.ns → fc.lev = fx.lev → fc.qt = fx.qt → fc.env.scope = relabel scope fx.env →
      EvE fc (fun cls σ => X cls ⟨σ₁.loc, σ.hp⟩) elt ⟨setAll (compLoc scope σ₁.loc) bs, hp⟩ (fun v σ₃ => ∃ acc, σ₃.hp[σ₁.hp.length]? = some (.list acc) ∧ acc.length ≤ k ∧ J (k + 1) (σ₃.hp.set σ₁.hp.length (.list (acc ++ [v]))))
theorem comp_coreX (all : FxAll fx) (hL : fx.env.locals = fx.L) (hq : fx.qt = true) {elt t iter : Expr} {scope : Scope} {pos pos' : Pos} (co : CompOk fx.env scope) (hs : ∀ x, foldedSetIterable iter fx.env x = pure x) {Qr : Value → Shared → Prop}
    {P : List V → (St → Prop) → St → Prop} (hI : IterT fx X iter σ P) (R : Rep fx σ W s)
    (body : ∀ its need σ₁, P its need σ₁ → ∃ J, CompJX fx X elt t scope its need σ₁ J ∧
      ∀ C oC D hp W' s', ExOk fx [(C, oC)] → NsObj oC → W.le W' → Rep (fx.pushL [(C, oC)]) ⟨σ₁.loc, hp⟩ W' s' → W'.al[σ₁.hp.length]? = some D → J its.length hp → cPost fx.M fx.A (PX fx W X) Qr (.ref D) (compEnvC scope (clOf fx.env scope.names []) C fx.env) (.ok .next) s') :
    wpAny fx.M fx.A (comprehension (.ListComp elt [⟨t, iter, [], 0⟩] scope pos) scope fx.env pos' (newList []) false (eval iter fx.env) none) Qr (PX fx W X) s := by
  have hfree : ∀ n, (n, NameKind.free) ∈ scope.names → fx.env.cells.lookup n ≠ none := fun n hn => all.cdef n (co.free n (co.frees _ hn rfl))
  refine comp_freeX (gn := ⟨t, iter, [], 0⟩) (gs := []) rfl hs (closure_ok hfree) co.kind co.names (wpAny_mono (hI W s R) (fun xv s₁ h₁ => wpAny_mono h₁ (fun it s₂ h₂ => ?_) fun _ _ e => e) fun _ _ e => e)
  obtain ⟨Io, st, ps, W₁, σ₁, its, need, rfl, le₁, S, hst, hex, R₁, hP⟩ := h₂
  obtain ⟨J, ⟨h0, hneed, hsz, turn⟩, fin⟩ := body its need σ₁ hP
  -- the list
  obtain ⟨W₂, le₂, hal₂, R₂⟩ := R₁.alloc (o := .list []) (ob := listObj [] 0) s₂.toks rfl fun W' _ => .list 0 .nil
  refine wpAny_newObj_type ?_ (by size_fits)
  have hn₁ : W₁.al.length = σ₁.hp.length := by obtain ⟨_, _, _, _, _, _, _, c⟩ := R₁; exact c.len
  have hD : W₂.al[σ₁.hp.length]? = some s₂.heap.objs.size := by rw [hal₂, ← hn₁]; simp
  -- the names
  refine wpAny_newFunctionEnv co.nocell (by intro y hy; simp at hy) (fun h₃ hns₃ hsb₃ => ?_) co.kind
  dsimp only at hns₃ hsb₃ ⊢
  generalize hH : s₂.heap.push { cls := .type "list", dict := none, data := .seq ([] : List Value).toArray } = H2 at hns₃ hsb₃ R₂ ⊢
  obtain ⟨oC, es, ep, hgC, hdC, hkC, hfC⟩ := hns₃
  have old : ∀ b o, H2.get? b = some o → h₃.get? b = some o := fun b o e => hsb₃.extBut b o (Nat.ne_of_lt (Heap.lt_size e)) (Heap.get?_push_of_some _ e)
  obtain ⟨R₃, ok₃⟩ := Rep.exPush (s := { s₂ with heap := H2, toks := s₂.toks }) R₂ [(H2.objs.size, oC)] (by simp) s₂.toks old (fun p hp => by rw [List.mem_singleton.mp hp]; exact Nat.le_refl _)
    (fun p hp => by rw [List.mem_singleton.mp hp]; exact hgC) (R₂.locals_at (all.pushL hex))
  -- the frame's own things in the order that the loop wants
  have okC : ExOk fx [(H2.objs.size, oC)] := ⟨by simp, fun p hp => ok₃.dis p (List.mem_append_right _ hp), ok₃.cel, ok₃.loc⟩
  have okP : ExOk (fx.pushL [(H2.objs.size, oC)]) ps := ⟨hex.nd, fun p hp q => by
    rcases List.mem_append.mp hp with hp | hp
    · rw [List.mem_singleton.mp hp] at q
      obtain ⟨o, ho⟩ := mem_keys q
      exact ok₃.dis _ (List.mem_append_left _ ho) (by simp)
    · exact hex.dis p hp q, hex.cel, hex.loc⟩
  have perm : ∀ {σ' W' s'} {a b : List (Addr × Obj)}, Rep ((fx.pushL a).pushL b) σ' W' s' → Rep ((fx.pushL b).pushL a) σ' W' s' := by
    intro σ' W' s' a b R'
    refine R'.elim fun e g m news G F N c => ?_
    have hmem : ∀ p, p ∈ a ++ (b ++ fx.ex) → p ∈ b ++ (a ++ fx.ex) := fun p hp => by
      simp only [List.mem_append] at hp ⊢
      rcases hp with h | h | h <;> simp [h]
    have hmem' : ∀ p, p ∈ b ++ (a ++ fx.ex) → p ∈ a ++ (b ++ fx.ex) := fun p hp => by
      simp only [List.mem_append] at hp ⊢
      rcases hp with h | h | h <;> simp [h]
    refine ⟨e, g, m, news, G, F, N, c.nd, fun p hp => c.exs p (hmem p hp), fun p hp => c.exd p (hmem p hp), c.aln, c.len, c.obs, c.tps, fun x v h => ?_, c.cel, c.scc, c.mfx, fun p hp t ht => c.ext p (hmem p hp) t ht⟩
    obtain ⟨u, h1, h2⟩ := c.loc x v h
    refine ⟨u, h1, ?_⟩
    cases h2 with
    | loc a b c => exact .loc a b c
    | comp a b c => exact .comp a (hmem' _ b) c
    | cell a b c d => exact .cell a b c d
  have R₄ := perm R₃
  have loop : ∀ s₃ : Shared, s₃ = { s₂ with heap := h₃, toks := s₂.toks } →
      codeAny fx.M fx.A (.compLoop (.ListComp elt [⟨t, iter, [], 0⟩] scope pos) 0 (.ref Io) (.ref s₂.heap.objs.size) (compEnvC scope (clOf fx.env scope.names []) H2.objs.size fx.env))
        (cPost fx.M fx.A (PX fx W X) Qr (.ref s₂.heap.objs.size) (compEnvC scope (clOf fx.env scope.names []) H2.objs.size fx.env)) s₃ := by
    rintro s₃ rfl
    refine compLoop_any (fun n s' => ∃ k ps' oC' W' hp, n = its.length - k ∧ k ≤ its.length ∧ W₂.le W' ∧ st k ps' ∧ ExOk fx [(H2.objs.size, oC')] ∧ ExOk (fx.pushL [(H2.objs.size, oC')]) ps' ∧ NsObj oC' ∧
      Rep ((fx.pushL [(H2.objs.size, oC')]).pushL ps') ⟨σ₁.loc, hp⟩ W' s' ∧ J k hp) ?_ its.length ⟨0, ps, oC, W₂, _, rfl, Nat.zero_le _, .refl _, hst, okC, okP, ⟨es, ep, hdC, hkC⟩, R₄, h0⟩
    rintro n s' ⟨k, ps', oC', W', hp, rfl, hk, le', hst', okC', okP', hoC', R', hJ⟩
    have LE' := le₁.trans (le₂.trans le')
    rcases Nat.lt_or_ge k its.length with hlt | hge
    · refine S.next [(H2.objs.size, oC')] k ps' _ W' s' hlt (le₂.trans le') hst' okP' R' (hneed k hp hJ) _ _ fun u ps'' W'' h'' tk'' hst'' hkey le'' r'' R'' => ?_
      refine S.own [(H2.objs.size, oC')] (k + 1) ps'' _ W'' _ t u hst'' R'' _ _ ?_
      have okP'' := okP'.keys hkey
      have okJ := okC'.join okP''
      rw [pushL_pushL] at R''
      obtain ⟨bs, htv, hloc, ht⟩ := turn k hp hlt hJ
      have hps'' := S.tup (k + 1) ps'' hst''
      refine asgC all hq co.kind hps'' okJ R'' hoC' htv hloc r'' fun oC₂ h₅ tk₅ ho₂ hl₂ R₅ => ?_
      have okC₂ : ExOk fx [(H2.objs.size, oC₂)] := okC'.keys rfl
      have okP₂ : ExOk (fx.pushL [(H2.objs.size, oC₂)]) ps'' := ExOk.left (qs := [(H2.objs.size, oC')]) rfl okP''
      obtain ⟨fc, allc, e1, e2, e3, e4, e5, e6, Rc, back, backX, v1, v2, v3⟩ := toCX all co (List.mem_append_right _ (List.mem_singleton.mpr rfl)) R₅ hl₂ (fun y v h => by
        rcases setAll_mem h with ⟨b, hb, rfl⟩ | q
        · exact hloc b hb
        · cases q) (l' := setAll (compLoc scope σ₁.loc) bs) (fun y v h => setAll_split h)
      have hM : fc.M = fx.M := by show model fc.pg.prog fc.pg.w = model fx.pg.prog fx.pg.w; rw [e1]
      have err : ∀ (y : Value) (s₈ : Shared), PX fc W'' (fun cls σ => X cls ⟨σ₁.loc, σ.hp⟩) y s₈ → notedBy fx.M fx.A (compEnvC scope (clOf fx.env scope.names []) H2.objs.size fx.env) (fun e s' => cPost fx.M fx.A (PX fx W X) Qr (.ref s₂.heap.objs.size) (compEnvC scope (clOf fx.env scope.names []) H2.objs.size fx.env) (.error e) s') y s₈ := by
        rintro _ s₈ ⟨e, cls, k', W₈, σ₈, rfl, le₈, xr, hx⟩
        have hfr : (compEnvC scope (clOf fx.env scope.names []) H2.objs.size fx.env).frame = fx.fenv.frame := by
          show fx.env.frame = _
          rw [all.envf hL]
        have hne : noteFrame (.ref e) (compEnvC scope (clOf fx.env scope.names []) H2.objs.size fx.env) = noteFrame (.ref e) fc.fenv := by
          unfold noteFrame PySem.frameOf
          rw [hfr, v1]
        unfold notedBy
        rw [hne]
        refine XRep.note xr (by rw [v1, v2]; exact all.frs) (by rw [v1, v3]; exact all.ffr) fun h₉ xr₉ => ?_
        have x₁ := backX σ₈ W₈ _ e cls .held le₈ xr₉
        have okJ₂ := okC₂.join okP₂
        obtain ⟨m, hm⟩ := ns_at (x₁.exAt (p := (H2.objs.size, oC₂)) (List.mem_append_right _ (List.mem_singleton.mpr rfl))) ho₂
        refine ⟨m, hm, fun h' hs' => ?_⟩
        have x₂ := x₁.drop all okJ₂ (C := H2.objs.size) (oC := oC₂) (List.mem_append_right _ (List.mem_singleton.mpr rfl)) (h' := h') fun b hb => hs'.2 b hb
        exact x₂.goes all hL (LE'.trans (le''.trans le₈)) hx
      have h₇ := ht fc allc e1 e2 e3 e6 (by rw [e4]; rfl) W'' _ Rc
      rw [hM, e5, e4] at h₇
      refine wpAny_tests_nil ?_
      simp only [if_true]
      refine wpAny_mono h₇ ?_ err
      rintro y s₇ ⟨W₇, σ₇, v, le₇, R₇, r₇, acc, hacc, hlen, hJ₇⟩
      have R₈ := back σ₇ W₇ s₇ le₇ R₇
      have leT : W₂.le W₇ := (le'.trans le'').trans le₇
      have h₈ := append_ok (fx := fx.pushL (ps'' ++ [(H2.objs.size, oC₂)])) (X := X0) (σ := ⟨σ₁.loc, σ₇.hp⟩) (Q := fun r σ' => J (k + 1) σ'.hp ∧ σ'.loc = σ₁.loc) (v := v) hacc (by omega) ⟨hJ₇, rfl⟩ W₇ s₇ [.ref s₂.heap.objs.size, y] R₈
        (.cons (.ref (prefix_get leT.1 hD)) (.cons r₇ .nil))
      refine wpAny_mono h₈ ?_ fun _ _ x => x.never.elim
      rintro z s₉ ⟨W₉, σ₉, v₉, le₉, R₉, r₉, hJ₉, hl₉⟩
      obtain ⟨loc₉, hp₉⟩ := σ₉
      dsimp only at hl₉ hJ₉
      subst hl₉
      refine ⟨its.length - (k + 1), by omega, k + 1, ps'', oC₂, W₉, hp₉, rfl, hlt, leT.trans le₉, hst'', okC₂, okP₂, ho₂, ?_, hJ₉⟩
      rw [pushL_pushL]
      exact R₉
    · obtain rfl : k = its.length := Nat.le_antisymm hk hge
      refine S.done [(H2.objs.size, oC')] ps' _ W' s' (le₂.trans le') hst' okP' R' (hneed _ hp hJ) _ _ fun h'' tk'' R'' => ?_
      exact fin H2.objs.size oC' s₂.heap.objs.size hp W' _ okC' hoC' LE' R'' (prefix_get le'.1 hD) hJ
  exact codeAny_compStart_list (loop _ rfl) (S.self [(H2.objs.size, oC)] 0 ps _ W₂ _ hst R₄ _ _ (loop _ rfl))
theorem evCompX (all : FxAll fx) (hL : fx.env.locals = fx.L) (hq : fx.qt = true) {elt t iter : Expr} {scope : Scope} {pos : Pos} {Q : V → St → Prop} (co : CompOk fx.env scope) (hs : ∀ x, foldedSetIterable iter fx.env x = pure x)
    (h : IterT fx X iter σ (fun its need σ₁ => ∃ J, CompJX fx X elt t scope its need σ₁ J ∧ ∀ hp, J its.length hp → Q (.ref σ₁.hp.length) ⟨σ₁.loc, hp⟩)) : EvE fx X (.ListComp elt [⟨t, iter, [], 0⟩] scope pos) σ Q := by
  intro W s R
  show wpAny fx.M fx.A (comprehension (.ListComp elt [⟨t, iter, [], 0⟩] scope pos) scope fx.env _ (newList []) false (eval iter fx.env) none) _ _ s
  refine comp_coreX all hL hq co hs h R fun its need σ₁ ⟨J, hJ, fin⟩ => ⟨J, hJ, fun C oC D hp W' s' okC ho le R' hD hJ' => ?_⟩
  obtain ⟨m, hm⟩ := ns_at (R'.exPop (List.mem_singleton.mpr rfl)) ho
  refine ⟨m, hm, fun h' hs' => ?_⟩
  have R'' := R'.exDrop okC s'.toks (h' := h') fun b o hb e => (hs'.2 b (show b ≠ C from by simpa using hb)).trans e
  exact ⟨W', _, .ref σ₁.hp.length, le, R'', .ref hD, fin hp hJ'⟩
end
section
variable {c : Cx} {X : XP} {l : Lo} {hp : List O} {p q r : Pos} {pg : Pg} {sc : Scope} {ns : List Int} {lev : Nat} {qt : Bool}
@[irreducible] def CompX (c : Cx) (X : XP) (elt t : Expr) (csc : Scope) (its : List V) (need : St → Prop) (l : Lo) (hp : List O) (K : List O → Prop) : Prop :=
  ∃ J, (∀ fx, FxAt c fx → CompJX fx X elt t csc its need ⟨l, hp⟩ J) ∧ ∀ hp', J its.length hp' → K hp'
theorem s_retCompX {elt t iter : Expr} {csc : Scope} {K : KF} (hc : CxIs c pg sc ns lev true) (ck : compCk sc csc t = true) (ns' : notSet iter = true) (h : I c X iter l hp fun its need l hp => CompX c X elt t csc its need l hp fun hp' => K (.ret (.ref hp.length)) l hp') : S c X (.Return (some (.ListComp elt [⟨t, iter, [], 0⟩] csc q)) p) l hp K := by
  obtain ⟨rfl⟩ := hc
  unfold compCk at ck
  simp only [Bool.and_eq_true] at ck
  unfold S
  unfold I CompX at h
  exact fun fx F hL => evReturn (evCompX F.all hL (F.qt rfl) (compOk_of F.sc ck.1.1) (folded_of ns' _) ((h fx F).mono fun its need σ ⟨J, h1, h2⟩ => ⟨J, h1 fx F, h2⟩))
end
end Mine

set_option autoImplicit false
namespace Mine
open PySem PySem.W PySem.Calls PySem.Spec PyProof.Rows

/-! texts -/
section
variable {fx : Fx} {X : XP} {σ : St} {W : Wd} {s : Shared}
theorem keptGet (s : Shared) : KeptH fun h' => ∀ b o, s.heap.get? b = some o → h'.get? b = some o := fun _ _ k b o e => Heap.get?_push_of_some _ (k b o e)
theorem evSliceStr {x : Str} {q pos sp : Pos} {lo hi : Option Expr} {Q : V → St → Prop} (h : EvE fx X (.Name x q) σ (fun o σ₁ => EvO fx X lo σ₁ (fun a σ₂ => EvO fx X hi σ₂ (fun b σ₃ => ∃ z : Str, o = .str z ∧ z.length ≤ sizeLine ∧ Q (.str (Txt.slice z a b)) σ₃)))) : EvE fx X (.Subscript (.Name x q) (.Slice lo hi none sp) pos) σ Q := by
  intro W s R
  refine Subscript_ (wpAny_mono (h W s R) ?_ fun _ _ x => x)
  refine fun u₁ s₁ zz => zz.elim fun W₁ σ₁ o le₁ R₁ r₁ h₁ => ?_
  rw [arm_eval_Slice]
  refine wpAny_bind (wpAny_mono (evO_run h₁ R₁ (Q' := fun u s' => ∃ a W' σ', W₁.le W' ∧ Rep fx σ' W' s' ∧ IsPart u a ∧ EvO fx X hi σ' (fun b σ₃ => ∃ z : Str, o = .str z ∧ z.length ≤ sizeLine ∧ Q (.str (Txt.slice z a b)) σ₃)) fun u a W' σ' s' le R p q => ⟨a, W', σ', le, R, p, q⟩) ?_ fun _ _ x => x.mono le₁ fun _ _ y => y)
  rintro ul s₂ ⟨a, W₂, σ₂, le₂, R₂, p₂, h₂⟩
  refine wpAny_bind (wpAny_holding (wpAny_mono (evO_run h₂ R₂ (Q' := fun u s' => ∃ b W' σ', W₂.le W' ∧ Rep fx σ' W' s' ∧ IsPart u b ∧ ∃ z : Str, o = .str z ∧ z.length ≤ sizeLine ∧ Q (.str (Txt.slice z a b)) σ') fun u a W' σ' s' le R p q => ⟨a, W', σ', le, R, p, q⟩) ?_ fun _ _ x => x.mono (le₁.trans le₂) fun _ _ y => y))
  rintro uh s₃ ⟨b, W₃, σ₃, le₃, R₃, p₃, z, rfl, h4, h5⟩
  refine wpAny_bind (wpAny_holding (wpAny_pure ?_))
  have LE := (le₁.trans le₂).trans le₃
  cases r₁
  refine wpAny_newObj_type ?_ (by size_fits)
  have fin : ∀ h' t' k, (∀ b o, s₃.heap.get? b = some o → h'.get? b = some o) → PV fx W Q (.str (Txt.slice z a b) t') { s₃ with heap := h', toks := k } := fun h' t' k kk => ⟨W₃, σ₃, _, LE, R₃.keep k kk, .str _ _, h5⟩
  have kp := keptGet s₃
  have ki : ∀ b o, s₃.heap.get? b = some o → s₃.heap.get? b = some o := fun _ _ e => e
  cases p₂ with
  | none =>
    cases p₃ with
    | none =>
      obtain ⟨_, _, _, _, hg⟩ := SBH.sliceItem_nn (prog := fx.pg.prog) (w := fx.pg.w) (A := fx.A) (E := PX fx W X) kp ki fin h4
      exact tail_any (typeIs_str _ _ _) F.slot_str_getitem.lookup hg (by with_unfolding_all rfl)
    | int j uj =>
      obtain ⟨_, _, _, _, hg⟩ := SBH.sliceItem_ns (prog := fx.pg.prog) (w := fx.pg.w) (A := fx.A) (E := PX fx W X) kp ki fin h4
      exact tail_any (typeIs_str _ _ _) F.slot_str_getitem.lookup hg (by with_unfolding_all rfl)
  | int i ui =>
    cases p₃ with
    | none =>
      obtain ⟨_, _, _, _, hg⟩ := SBH.sliceItem_sn (prog := fx.pg.prog) (w := fx.pg.w) (A := fx.A) (E := PX fx W X) kp ki fin h4
      exact tail_any (typeIs_str _ _ _) F.slot_str_getitem.lookup hg (by with_unfolding_all rfl)
    | int j uj =>
      obtain ⟨_, _, _, _, hg⟩ := SBH.sliceItem_ss (prog := fx.pg.prog) (w := fx.pg.w) (A := fx.A) (E := PX fx W X) kp ki fin h4
      exact tail_any (typeIs_str _ _ _) F.slot_str_getitem.lookup hg (by with_unfolding_all rfl)
theorem bin_strsT {x y : Str} {Q : V → St → Prop} (hl : x.length + y.length ≤ sizeLine) (h : Q (.str (x ++ y)) σ) : BinT fx X .Add (.str x) (.str y) σ Q := by
  intro W s u₁ u₂ R r₁ r₂; cases r₁; cases r₂
  exact SB.add (fun t' k => PV.here (R.toks k) (.str _ _) h) hl
theorem bin_strmulT {x : Str} {n : Int} {Q : V → St → Prop} (hl : MulOk x n) (h : Q (.str (Txt.mul x n)) σ) : BinT fx X .Mult (.str x) (.int n) σ Q := by
  intro W s u₁ u₂ R r₁ r₂; cases r₁; cases r₂
  exact SB.mul hl (fun t' k => PV.here (R.toks k) (.str _ _) h)
theorem cmp_seqT {x y : Str} {Q : V → St → Prop} (h : Q (.bool (x == y)) σ) : CmpT fx X .Eq (.str x) (.str y) σ Q := by
  intro W s u₁ u₂ R r₁ r₂; cases r₁; cases r₂
  exact PyProof.Rows.eq_str (PV.here R (.bool _) h)
theorem cmp_sneT {x y : Str} {Q : V → St → Prop} (h : Q (.bool (x != y)) σ) : CmpT fx X .NotEq (.str x) (.str y) σ Q := by
  intro W s u₁ u₂ R r₁ r₂; cases r₁; cases r₂
  exact PyProof.Rows.ne_str (PV.here R (.bool _) h)
theorem cmp_sinT {x y : Str} {Q : V → St → Prop} (h : Q (.bool (Txt.contains x y)) σ) : CmpT fx X .In (.str y) (.str x) σ Q := by
  intro W s u₁ u₂ R r₁ r₂; cases r₁; cases r₂
  exact SB.contains (PV.here R (.bool _) h)
theorem cmp_sninT {x y : Str} {Q : V → St → Prop} (h : Q (.bool (!Txt.contains x y)) σ) : CmpT fx X .NotIn (.str y) (.str x) σ Q := by
  intro W s u₁ u₂ R r₁ r₂; cases r₁; cases r₂
  exact SB.notContains (PV.here R (.bool _) h)
theorem len_strT {x : Str} {Q : V → St → Prop} (hn : x.length < 2 ^ 62) (h : Q (.int x.length) σ) : CallT fx X (.builtin "len") [.str x] σ Q := by
  intro W s us R r
  cases r with
  | cons r r' =>
    cases r'; cases r
    exact P.len_str (by omega) (PV.here (R.toks _) (.int _ _) h)
theorem strIntT {a : Int} {Q : V → St → Prop} (ha : a.natAbs.log2 < 1920) (h : Q (.str (Str.ofString (toString a))) σ) : CallT fx X (.type "str") [.int a] σ Q := by
  intro W s us R r
  cases r with
  | cons r r' =>
    cases r'; cases r
    exact P.str_of_int ha (PV.here (R.toks _) (.str _ _) h)
theorem intStrT {x : Str} {n : Int} {Q : V → St → Prop} (hn : PySem.intText? x = some n) (hl : x.length ≤ 640) (h : Q (.int n) σ) : CallT fx X (.type "int") [.str x] σ Q := by
  intro W s us R r
  cases r with
  | cons r r' =>
    cases r'; cases r
    exact KIN.call_text hn hl (PV.here (R.toks _) (.int _ _) h)
theorem sub_str {value slice : Expr} (hs : notSlice slice = true) {x : Str} {i : Int} {Q : V → St → Prop} (hr : fitsSsize i = true) (hin : (Txt.charAt x i).isSome = true) (h : Q (.str (Txt.item x i)) σ) : SubT fx X value slice (.str x) (.int i) σ Q := by
  intro W s u₁ u₂ R r₁ r₂
  cases r₁; cases r₂
  exact tail_any (typeIs_str _ _ _) F.slot_str_getitem.lookup (SB.getItem hr hin (PV.here (R.toks _) (.str _ _) h)) (subscripted_plain hs _ _)
theorem vrs_strs : ∀ {ts : List Str} {xs : List Value}, VRs W (ts.map .str) xs → ∃ l : List (Str × Tok), xs = strValues l ∧ l.map (·.1) = ts
  | [], _, .nil => ⟨[], rfl, rfl⟩
  | t :: ts, _, .cons a r => by
    obtain ⟨l, e1, e2⟩ := vrs_strs r
    cases a with
    | str _ tk => exact ⟨(t, tk) :: l, by rw [e1]; rfl, by rw [List.map_cons, e2]⟩
theorem strs_vrs : ∀ (l : List (Str × Tok)), VRs W ((l.map (·.1)).map .str) (strValues l)
  | [] => .nil
  | (x, t) :: l => .cons (.str x t) (strs_vrs l)
theorem joinT {sep : Str} {i : Nat} {ts : List Str} {Q : V → St → Prop} (e : σ.hp[i]? = some (.list (ts.map .str))) (hok : JoinOk sep ts = true) (h : Q (.str (Txt.join sep ts)) σ) : CallT fx X (.builtin "str.join") [.str sep, .ref i] σ Q := by
  intro W s us R r
  cases r with
  | cons r₁ r =>
    cases r with
    | cons r₂ r =>
      cases r; cases r₁
      obtain ⟨a, xs, n, rfl, h1, h2, h3⟩ := R.list_at e r₂
      obtain ⟨l, rfl, hl⟩ := vrs_strs h3
      exact SC.join (listObj_isList h2) hl hok (fun t' k => PV.here (R.toks k) (.str _ _) h)
theorem splitT {x y : Str} {Q : V → St → Prop} (hy : (y.length == 0) = false) (hl : x.length ≤ 10000000) (h : Q (.ref σ.hp.length) ⟨σ.loc, σ.hp ++ [.list ((Txt.split x y).map .str)]⟩) : CallT fx X (.builtin "str.split") [.str x, .str y] σ Q := by
  intro W s us R r
  cases r with
  | cons r₁ r =>
    cases r with
    | cons r₂ r =>
      cases r; cases r₁; cases r₂
      rename_i t u
      have fin : ∀ (l : List (Str × Tok)) (k : Nat), l.map (·.1) = Txt.split x y → PV fx W Q (.ref s.heap.objs.size) { s with toks := k, heap := s.heap.push (listObj (strValues l) 0) } := by
        intro l k hl
        obtain ⟨W', le, ea, R'⟩ := R.alloc (o := .list ((Txt.split x y).map .str)) (ob := listObj (strValues l) 0) k rfl fun W' _ => .list 0 (by rw [← hl]; exact strs_vrs l)
        refine ⟨W', _, .ref σ.hp.length, le, R', .ref ?_, h⟩
        refine R.elim fun _ g m news _ _ N C => ?_
        rw [ea, ← C.len]
        simp
      have hsz : x.length ≤ sizeLine := by rw [sizeLine_eq]; omega
      have hne1 : (Txt.split x y).length ≤ x.length + 2 := split_le x y
      cases h1 : (decide (x.length < y.length) || decide (Builtin.Str.strKind x < Builtin.Str.strKind y))
      · cases hf : (Builtin.Str.occurrences x y 0 x.length (x.length + 1)).isEmpty
        · have e : Txt.split x y = Builtin.Str.partsBetween x (Builtin.Str.occurrences x y 0 x.length (x.length + 1)) y.length := (if_neg (ne_true_of_eq_false h1)).trans (if_neg (ne_true_of_eq_false hf))
          refine call_meets F.slot_str_split (typeIs_str _ _ _) F.entry_str_split (F.args_str_split_2 _ _) (meets_str_split_sep x y t u h1 hy hf hsz (by rw [← e, sizeLine_eq]; omega)) ?_
          show wants (PV fx W Q) (PX fx W X) _ { s with toks := _, heap := s.heap.push { cls := .type "list", data := .seq (PySem.strsFrom s.toks (Builtin.Str.partsBetween x (Builtin.Str.occurrences x y 0 x.length (x.length + 1)) y.length)).toArray } }
          rw [strsFrom_eq]
          exact fin (numbered s.toks _) _ ((numbered_texts _ _).trans e.symm)
        · have e : Txt.split x y = [x] := (if_neg (ne_true_of_eq_false h1)).trans (if_pos hf)
          exact call_meets F.slot_str_split (typeIs_str _ _ _) F.entry_str_split (F.args_str_split_2 _ _) (meets_str_split_not_found x y t u h1 hy hf) (fin [(x, t)] s.toks e.symm)
      · have e : Txt.split x y = [x] := if_pos h1
        exact call_meets F.slot_str_split (typeIs_str _ _ _) F.entry_str_split (F.args_str_split_2 _ _) (meets_str_split_cannot_occur x y t u h1) (fin [(x, t)] s.toks e.symm)
theorem indexT {x y : Str} {i : Nat} {rest : List Nat} {Q : V → St → Prop} (ho : Builtin.Str.occurrences x y 0 x.length 1 = i :: rest) (h : Q (.int i) σ) : CallT fx X (.builtin "str.index") [.str x, .str y] σ Q := by
  intro W s us R r
  cases r with
  | cons r₁ r =>
    cases r with
    | cons r₂ r =>
      cases r; cases r₁; cases r₂
      exact SC.index ho (PV.here (R.toks _) (.int _ _) h)
theorem getM_str {x name : Str} {id : String} (slot : Slot "str" name id) (hty : typeOf (.builtin id) = pure (.type "method_descriptor")) : GetM fx (.str x) name id σ := by
  intro W s u pl Q E R r q
  cases r with
  | str _ t => with_reducible exact GM.of (.str x t) (typeIs_str _ _ _) slot hty GM.noRef q
theorem in_noneT (hu : fx.A.units + 64 < cLine) {i : Nat} {vs : List V} {ds : List PyData} {Q : V → St → Prop} (e : σ.hp[i]? = some (.list vs)) (hd : Dats σ.hp vs ds) (hl : PyData.canLayAll0 ds = true) (h : Q (.bool (ds.any fun y => PyData.eqv y .none)) σ) : CmpT fx X .In .none (.ref i) σ Q := by
  intro W s u₁ u₂ R r₁ r₂
  obtain ⟨as, ra⟩ := Dat.reads R (.list e hd) r₂
  obtain ⟨bs, rb⟩ := Dat.reads R (.none) r₁
  have m1 : min (PyData.depthAll ds) (PyData.depth .none) ≤ PyData.depth .none := Nat.min_le_right _ _
  have m2 : PyData.depth .none ≤ 1 := by decide
  have m3 : fx.A.units + 1 + min (PyData.depthAll ds) (PyData.depth .none) < cLine := by omega
  exact PySem.SeqAt.in_list_reads ra rb hl rfl m3 (PV.here R (.bool _) h)
/-- a text is walked sign by sign -/
def chV (c : Nat) : V := .str ⟨#[c]⟩
def strItSt (Io : Addr) (x : Str) (t : Tok) (k : Nat) (ps : List (Addr × Obj)) : Prop := ∃ ob : Obj, ps = [(Io, ob)] ∧ ob.cls = .type "str_ascii_iterator" ∧ ob.data = .fields #[.str x t, .int k 0]
theorem src_str (hh : fx.A.handled = none) {x : Str} {t : Tok} {Io : Addr} : Src fx W (x.cps.toList.map chV) (fun _ => True) Io (strItSt Io x t) where
  tup := by
    rintro k ps ⟨ob, rfl, hc, hd⟩ p hp xs e
    rw [List.mem_singleton.mp hp] at e
    rw [show ob = tupObj xs from e] at hc
    simp at hc
  own := by
    rintro qs k ps σ' W' s' t u ⟨ob, rfl, hc, hd⟩ R Q E q
    exact own_go (R.exPop (List.mem_singleton.mpr rfl)) hc hd (by decide) t u q
  self := by
    rintro qs k ps σ' W' s' ⟨ob, rfl, hc, hd⟩ R Q E q
    exact wpAny_pyIter_striter_ascii ⟨ob, R.exPop (List.mem_singleton.mpr rfl), hc, hd⟩ q
  next := by
    rintro qs k ps σ' W' s' hk le ⟨ob, rfl, hc, hd⟩ ok R need Q E q
    have hg := R.exPop (List.mem_singleton.mpr rfl)
    have hk' : k < x.cps.toList.length := by simpa using hk
    have hx : x.cps[k]? = some x.cps.toList[k] := by
      rw [← Array.getElem?_toList]
      exact List.getElem?_eq_getElem hk'
    refine wpAny_pyNext_ascii_item ⟨ob, hg, hc, hd⟩ hx fun h' hit hs => ?_
    obtain ⟨ob', hg', hc', hd'⟩ := hit
    have R' := R.exSwap ok [(Io, ob')] rfl (s'.toks + 1)
      (fun b o hb e => (hs.2 b (by simpa using hb)).trans e) (fun p hp => by rw [List.mem_singleton.mp hp]; exact hg')
    refine q _ [(Io, ob')] W' h' (s'.toks + 1) ⟨ob', rfl, hc', hd'⟩ rfl (.refl _) ?_ R'
    rw [List.getElem_map]
    exact .str _ _
  done := by
    rintro qs ps σ' W' s' le ⟨ob, rfl, hc, hd⟩ ok R need Q E q
    have hg := R.exPop (List.mem_singleton.mpr rfl)
    refine wpAny_pyNext_ascii_end hh ⟨ob, hg, hc, hd⟩ (by simp) fun h' he => ?_
    exact q h' s'.toks (R.exDrop ok _ fun b o hb e => he b o (by simpa using hb) e)
theorem srv_strT (ok : FxAll fx) (hq : fx.qt = true) {x : Str} {P : List V → (St → Prop) → St → Prop} (ha : x.cps.all (· < 128) = true) (h : P (x.cps.toList.map chV) (fun _ => True) σ) : SrvT fx (.str x) σ P := by
  intro W s u E R r
  cases r with
  | str _ t =>
    refine wpAny_pyIter_ascii ha ?_
    obtain ⟨R', ok'⟩ := R.exPush [(s.heap.objs.size, ({ cls := .type "str_ascii_iterator", data := .fields #[.str x t, .int 0 0] } : Obj))] (by simp) s.toks
      (fun b o e => Heap.get?_push_of_some _ e) (fun p hp => by rw [List.mem_singleton.mp hp]; exact Nat.le_refl _) (fun p hp => by rw [List.mem_singleton.mp hp]; exact Heap.get?_push_size _ rfl) (R.locals_at ok)
    exact ⟨_, _, _, W, σ, _, _, rfl, .refl _, src_str (ok.ok.handled hq), ⟨_, rfl, rfl, rfl⟩, ok', R', h⟩
end
section
variable {c : Cx} {X : XP} {l : Lo} {hp : List O} {K : KV} {p q r : Pos} {pg : Pg} {sc : Scope} {ns : List Int} {lev : Nat} {qt : Bool}
theorem e_sliceS {x : Str} {z : Str} {lo hi : Option Expr} (e : l x = some (.str z)) (s : Side (z.length ≤ sizeLine)) (h : Opt c X lo l hp fun a l hp => Opt c X hi l hp fun b l hp => K (.str (Txt.slice z a b)) l hp) : E c X (.Subscript (.Name x q) (.Slice lo hi none r) p) l hp K := by
  have hx := e_name (c := c) (X := X) (p := q) (hp := hp) (K := fun o l₁ hp₁ => o = .str z ∧ l₁ = l ∧ hp₁ = hp) e ⟨rfl, rfl, rfl⟩
  unfold E Opt at *
  refine fun fx F => evSliceStr ((hx fx F).mono fun o σ ⟨f1, f2, f3⟩ => ?_)
  obtain ⟨σl, σh⟩ := σ
  dsimp only at f2 f3
  subst f2; subst f3
  exact (h fx F).mono' fun a σ' h₂ => (h₂ fx F).mono' fun b σ'' h₃ => ⟨z, f1, s.h, h₃⟩
theorem bin_strs {x y : Str} (s : Side (x.length + y.length ≤ sizeLine)) (h : K (.str (x ++ y)) l hp) : Bin c X .Add (.str x) (.str y) l hp K := by unfold Bin; exact fun _ _ => bin_strsT s.h h
theorem bin_strmul {x : Str} {n : Int} (s : MulOk x n) (h : K (.str (Txt.mul x n)) l hp) : Bin c X .Mult (.str x) (.int n) l hp K := by unfold Bin; exact fun _ _ => bin_strmulT s h
theorem cmp_seq {x y : Str} (h : K (.bool (x == y)) l hp) : Cmp c X .Eq (.str x) (.str y) l hp K := by unfold Cmp; exact fun _ _ => cmp_seqT h
theorem cmp_sne {x y : Str} (h : K (.bool (x != y)) l hp) : Cmp c X .NotEq (.str x) (.str y) l hp K := by unfold Cmp; exact fun _ _ => cmp_sneT h
theorem cmp_sin {x y : Str} (h : K (.bool (Txt.contains x y)) l hp) : Cmp c X .In (.str y) (.str x) l hp K := by unfold Cmp; exact fun _ _ => cmp_sinT h
theorem cmp_snin {x y : Str} (h : K (.bool (!Txt.contains x y)) l hp) : Cmp c X .NotIn (.str y) (.str x) l hp K := by unfold Cmp; exact fun _ _ => cmp_sninT h
theorem cmp_nin {i : Nat} {vs : List V} {ds : List PyData} (e : hp[i]? = some (.list vs)) (hd : Dats hp vs ds) (hl : PyData.canLayAll0 ds = true) (h : K (.bool (ds.any fun y => PyData.eqv y .none)) l hp) : Cmp c X .In .none (.ref i) l hp K := by unfold Cmp; exact fun fx F => in_noneT F.units e hd hl h
theorem cb_len_str {x : Str} (s : Side (x.length < 2 ^ 62)) (h : K (.int x.length) l hp) : CB c X "len" [.str x] l hp K := by unfold CB; exact fun _ _ => len_strT s.h h
theorem ct_str {a : Int} (s : Side (a.natAbs.log2 < 1920)) (h : K (.str (Str.ofString (toString a))) l hp) : CT c X "str" [.int a] l hp K := by unfold CT; exact fun _ _ => strIntT s.h h
theorem ct_intS {x : Str} {n : Int} (hn : PySem.intText? x = some n) (s : Side (x.length ≤ 640)) (h : K (.int n) l hp) : CT c X "int" [.str x] l hp K := by unfold CT; exact fun _ _ => intStrT hn s.h h
theorem sb_str {x : Str} {i : Int} (hr : fitsSsize i = true) (hin : (Txt.charAt x i).isSome = true) (h : K (.str (Txt.item x i)) l hp) : Sub c X (.str x) (.int i) l hp K := by unfold Sub; exact fun _ _ _ _ nsl => sub_str nsl hr hin h
theorem cb_join {sep : Str} {i : Nat} {ts : List Str} (e : hp[i]? = some (.list (ts.map .str))) (hok : JoinOk sep ts = true) (h : K (.str (Txt.join sep ts)) l hp) : CB c X "str.join" [.str sep, .ref i] l hp K := by unfold CB; exact fun _ _ => joinT e hok h
theorem cb_split {x y : Str} (hy : (y.length == 0) = false) (s : Side (x.length ≤ 10000000)) (h : K (.ref hp.length) l (hp ++ [.list ((Txt.split x y).map .str)])) : CB c X "str.split" [.str x, .str y] l hp K := by unfold CB; exact fun _ _ => splitT hy s.h h
theorem cb_index {x y : Str} {i : Nat} {rest : List Nat} (ho : Builtin.Str.occurrences x y 0 x.length 1 = i :: rest) (h : K (.int i) l hp) : CB c X "str.index" [.str x, .str y] l hp K := by unfold CB; exact fun _ _ => indexT ho h
theorem srv_str {x : Str} {P : KI} (hc : CxIs c pg sc ns lev true) (ha : x.cps.all (· < 128) = true) (h : P (x.cps.toList.map chV) (fun _ => True) l hp) : Srv c (.str x) l hp P := by
  obtain ⟨rfl⟩ := hc
  unfold Srv
  exact fun fx F => srv_strT F.all (F.qt rfl) ha h
@[irreducible] def IsS (v : V) (P : Str → Prop) : Prop := ∃ x, v = .str x ∧ P x
theorem is_s {x : Str} {P : Str → Prop} (h : P x) : IsS (.str x) P := by unfold IsS; exact ⟨x, rfl, h⟩
theorem e_join {o a : Expr} (hb : baseOk o = true) (ha : [a].all noStar = true) (hl : (q.endLine == p.line) = true) (h : E c X o l hp fun ov l₁ hp₁ => IsS ov fun x => Es c X [a] l₁ hp₁ fun vs l hp => CB c X "str.join" (.str x :: vs) l hp K) : E c X (.Call (.Attribute o "join" q) [a] [] p) l hp K := by
  unfold E IsS Es CB at *
  refine fun fx F => evMeth hb ha (by simp) hl ((h fx F).mono fun ov σ ⟨x, e, h₂⟩ => ?_)
  subst e
  exact ⟨_, getM_str PySem.F.slot_str_join PySem.F.type_str_join, (h₂ fx F).mono fun vs σ h₃ => h₃ fx F⟩
theorem e_split {o a : Expr} (hb : baseOk o = true) (ha : [a].all noStar = true) (hl : (q.endLine == p.line) = true) (h : E c X o l hp fun ov l₁ hp₁ => IsS ov fun x => Es c X [a] l₁ hp₁ fun vs l hp => CB c X "str.split" (.str x :: vs) l hp K) : E c X (.Call (.Attribute o "split" q) [a] [] p) l hp K := by
  unfold E IsS Es CB at *
  refine fun fx F => evMeth hb ha (by simp) hl ((h fx F).mono fun ov σ ⟨x, e, h₂⟩ => ?_)
  subst e
  exact ⟨_, getM_str PySem.F.slot_str_split PySem.F.type_str_split, (h₂ fx F).mono fun vs σ h₃ => h₃ fx F⟩
theorem e_index {o a : Expr} (hb : baseOk o = true) (ha : [a].all noStar = true) (hl : (q.endLine == p.line) = true) (h : E c X o l hp fun ov l₁ hp₁ => IsS ov fun x => Es c X [a] l₁ hp₁ fun vs l hp => CB c X "str.index" (.str x :: vs) l hp K) : E c X (.Call (.Attribute o "index" q) [a] [] p) l hp K := by
  unfold E IsS Es CB at *
  refine fun fx F => evMeth hb ha (by simp) hl ((h fx F).mono fun ov σ ⟨x, e, h₂⟩ => ?_)
  subst e
  exact ⟨_, getM_str PySem.F.slot_str_index PySem.F.type_str_index, (h₂ fx F).mono fun vs σ h₃ => h₃ fx F⟩
theorem isi_is {a : Int} (h : K (.bool false) l hp) : CB c X "isinstance" [.int a, .glob (.type "str")] l hp K := by unfold CB; exact fun _ _ => isi_of (fun W s u Q E R r q => by cases r; exact IsiPair.int_str (q _)) h
theorem isi_ns (h : K (.bool false) l hp) : CB c X "isinstance" [.none, .glob (.type "str")] l hp K := by unfold CB; exact fun _ _ => isi_of (fun W s u Q E R r q => by cases r; exact IsiPair.NoneType_str (q _)) h
theorem isi_rs {i : Nat} {vs : List V} (e : hp[i]? = some (.list vs)) (h : K (.bool false) l hp) : CB c X "isinstance" [.ref i, .glob (.type "str")] l hp K := by unfold CB; exact fun _ _ => isi_of (fun W s u Q E R r q => by obtain ⟨_, _, _, rfl, _, h2, _⟩ := R.list_at e r; exact isi_list h2 rfl (by simp) q) h
end
end Mine

set_option autoImplicit false
namespace Mine
open PySem PySem.W PySem.Calls PySem.Spec PySem.NumText PyProof.Rows

/-! texts as lists of signs -/
abbrev mkS (l : List Nat) : Str := ⟨l.toArray⟩
theorem mk_of (x : Str) : x = mkS x.cps.toList := by cases x; simp
theorem mk_len (l : List Nat) : (mkS l).length = l.length := by simp [Str.length]
theorem mk_app (a b : List Nat) : mkS a ++ mkS b = mkS (a ++ b) := Str.ext' (by simp [Str.cps_append])
theorem mk_inj {a b : List Nat} : mkS a = mkS b ↔ a = b := ⟨fun e => by injection e with e; simpa using congrArg Array.toList e, fun e => by rw [e]⟩
theorem mk_beq (a b : List Nat) : (mkS a == mkS b) = decide (a = b) := by
  rw [Bool.eq_iff_iff, beq_iff_eq, decide_eq_true_eq, mk_inj]
theorem mk_bne (a b : List Nat) : (mkS a != mkS b) = !decide (a = b) := by
  show (!(mkS a == mkS b)) = _
  rw [mk_beq]
theorem of_mk {s : String} {l : List Nat} (h : s.toList.map Char.toNat = l) : Str.ofString s = mkS l := by rw [Str.ofString_eq_toList, h]
open PySem.Builtin.Str in
theorem slice_to (l : List Nat) {j : Int} (h : 0 ≤ j) : Txt.slice (mkS l) none (some j) = mkS (l.take j.toNat) := by
  by_cases q : j ≤ l.length
  · have := StrLaws.sliceText_to (x := mkS l) (j := j) ⟨h, by simpa using q⟩
    refine Eq.trans (show Txt.slice (mkS l) none (some j) = StrLaws.sliceText (mkS l) none (some j) from rfl) (this.trans ?_)
    simp
  · have e : strSliceIndices none (some j) 1 (mkS l).length = strSliceIndices none (some (((mkS l).length : Nat) : Int)) 1 (mkS l).length := by
      have h0 : ¬ j < 0 := by omega
      have h1 : ¬ (((mkS l).length : Int) < 0) := by omega
      have h2 : (1 : Int) > 0 := by decide
      have h3 : min j ((mkS l).length : Int) = (mkS l).length := by rw [mk_len]; omega
      simp only [strSliceIndices, h0, h1, h2, if_false, if_true, h3, Int.min_self]
    have e2 : Txt.slice (mkS l) none (some j) = StrLaws.sliceText (mkS l) none (some (((mkS l).length : Nat) : Int)) := by
      unfold Txt.slice StrLaws.sliceText
      rw [e]
    rw [e2, StrLaws.sliceText_to ⟨by omega, by simp [Str.length]⟩]
    simp [Str.length]
    rw [List.take_of_length_le (by omega)]
theorem slice_from (l : List Nat) {i : Int} (h : 0 ≤ i) : Txt.slice (mkS l) (some i) none = mkS (l.drop i.toNat) := by
  by_cases q : i ≤ l.length
  · have := StrLaws.sliceText_from (x := mkS l) (i := i) ⟨h, by simpa using q⟩
    refine Eq.trans (show Txt.slice (mkS l) (some i) none = StrLaws.sliceText (mkS l) (some i) none from rfl) (this.trans ?_)
    simp only [List.toList_toArray]
    rw [List.take_of_length_le (by rw [List.length_drop]; omega)]
  · rw [slice_beyond (by rw [mk_len]; omega), List.drop_of_length_le (by omega)]
    rfl
theorem item_at {l : List Nat} {i : Int} (h0 : 0 ≤ i) (h1 : i < l.length) : (Txt.charAt (mkS l) i).isSome = true ∧ Txt.item (mkS l) i = mkS [l.getD i.toNat 0] := by
  have hk : i.toNat < l.length := by omega
  have e : Txt.charAt (mkS l) i = some (l.getD i.toNat 0) := by
    unfold Txt.charAt
    refine StrLaws.at_nonneg h0 ?_
    simp [hk]
  unfold Txt.item
  rw [e]
  exact ⟨rfl, rfl⟩
theorem fits_of {i : Int} (h0 : 0 ≤ i) (h1 : i < 1000000) : fitsSsize i = true := by
  unfold fitsSsize
  rw [decide_eq_false (by omega), decide_eq_false (by omega)]
  rfl
theorem contains_one (x : Str) (c : Nat) : Txt.contains x (mkS [c]) = decide (c ∈ x.cps.toList) := StrLaws.found_one x c

/-! figures -/
def isD (c : Nat) : Bool := decide (48 ≤ c) && decide (c ≤ 57)
def digs : List Nat := [48, 49, 50, 51, 52, 53, 54, 55, 56, 57]
theorem digs_mk : Str.ofString "0123456789" = mkS digs := of_mk (by decide)
theorem digs_mem (c : Nat) : decide (c ∈ digs) = isD c := by
  unfold isD digs
  rw [Bool.eq_iff_iff, Bool.and_eq_true, decide_eq_true_eq, decide_eq_true_eq, decide_eq_true_eq]
  simp only [List.mem_cons, List.not_mem_nil, or_false]
  omega
theorem allD_iff {l : List Nat} : l.all isD = true ↔ AllDigits l := by
  rw [List.all_eq_true]
  exact ⟨fun h c hc => by have := h c hc; unfold isD at this; rw [Bool.and_eq_true, decide_eq_true_eq, decide_eq_true_eq] at this; exact this, fun h c hc => by unfold isD; rw [decide_eq_true (h c hc).1, decide_eq_true (h c hc).2]; rfl⟩
/-- the figures of a number -/
def dg (m : Nat) : List Nat := (Nat.toDigits 10 m).map Char.toNat
theorem dg_digits (m : Nat) : AllDigits (dg m) := by
  intro c hc
  obtain ⟨ch, hch, e⟩ := List.mem_map.mp hc
  have r := digit_range (Nat.isDigit_of_mem_toDigits (by decide) (by decide) hch)
  rw [← e]
  exact r
theorem dg_ne (m : Nat) : dg m ≠ [] := by
  intro e
  have h := toDigits_len_ge 10 m
  rw [List.map_eq_nil_iff.mp e] at h
  exact absurd h (by decide)
theorem dg_val (m : Nat) : digitsVal (dg m) = m := KIN.val_back m
theorem dg_small {m : Nat} (h : m < 10) : dg m = [48 + m] := by
  unfold dg
  rw [Nat.toDigits_of_lt_base h]
  have : m = 0 ∨ m = 1 ∨ m = 2 ∨ m = 3 ∨ m = 4 ∨ m = 5 ∨ m = 6 ∨ m = 7 ∨ m = 8 ∨ m = 9 := by omega
  rcases this with rfl | rfl | rfl | rfl | rfl | rfl | rfl | rfl | rfl | rfl <;> rfl
theorem dg_big {m : Nat} (h : 10 ≤ m) : dg m = dg (m / 10) ++ [48 + m % 10] := by
  have hm : m % 10 < 10 := Nat.mod_lt m (by decide)
  have t : Nat.toDigits 10 (m / 10) ++ Nat.toDigits 10 (m % 10) = Nat.toDigits 10 (10 * (m / 10) + m % 10) := Nat.toDigits_append_toDigits (by decide) (by omega) hm
  rw [Nat.div_add_mod] at t
  rw [← dg_small hm]
  unfold dg
  rw [← t, List.map_append]
theorem dg_len {m k : Nat} (hk : 1 ≤ k) (h : m < 10 ^ k) : (dg m).length ≤ k := by
  induction k generalizing m with
  | zero => omega
  | succ k ih =>
    by_cases q : m < 10
    · rw [dg_small q]; simp
    · rw [dg_big (by omega), List.length_append, List.length_singleton]
      cases k with
      | zero => omega
      | succ k =>
        have := ih (m := m / 10) (by omega) (by
          rw [Nat.pow_succ] at h
          exact Nat.div_lt_of_lt_mul (by rw [Nat.mul_comm]; exact h))
        omega
theorem dg_head {m : Nat} {r : List Nat} (h : dg m = 48 :: r) : r = [] := by
  induction m using Nat.strongRecOn generalizing r with
  | _ m ih =>
    by_cases q : m < 10
    · rw [dg_small q] at h
      injection h with _ h
      exact h.symm
    · rw [dg_big (by omega)] at h
      cases hd : dg (m / 10) with
      | nil => exact absurd hd (dg_ne _)
      | cons a as =>
        rw [hd, List.cons_append] at h
        injection h with h1 h2
        subst h1
        have := ih (m / 10) (by omega) hd
        subst this
        have v := dg_val (m / 10)
        rw [hd] at v
        change 0 * 10 + (48 - 48) = m / 10 at v
        omega
theorem dg_back {l : List Nat} (h : AllDigits l) (hh : ∃ c r, l = c :: r ∧ (c ≠ 48 ∨ r = [])) : dg (digitsVal l) = l := by
  obtain ⟨c, r, rfl, hc⟩ := hh
  have c1 := h c (by simp)
  unfold dg
  rw [toDigits_digitsVal r.length (c :: r) rfl h (by
    rcases hc with q | q
    · exact .inr ⟨c, r, rfl, by omega⟩
    · exact .inl (by rw [q]; rfl)), List.map_map]
  conv => rhs; rw [← List.map_id (c :: r)]
  refine List.map_congr_left fun d hd => ?_
  have d1 := h d hd
  have : d = 48 ∨ d = 49 ∨ d = 50 ∨ d = 51 ∨ d = 52 ∨ d = 53 ∨ d = 54 ∨ d = 55 ∨ d = 56 ∨ d = 57 := by omega
  rcases this with rfl | rfl | rfl | rfl | rfl | rfl | rfl | rfl | rfl | rfl <;> rfl
/-- figures stay as they are when read and shown -/
theorem dg_iff {c : Nat} {r : List Nat} (h : AllDigits (c :: r)) : dg (digitsVal (c :: r)) = c :: r ↔ ¬ (c = 48 ∧ r ≠ []) := by
  constructor
  · rintro e ⟨rfl, q⟩
    exact q (dg_head e)
  · intro q
    refine dg_back h ⟨c, r, rfl, ?_⟩
    by_cases z : c = 48
    · exact .inr (Decidable.byContradiction fun y => q ⟨z, y⟩)
    · exact .inl z
/-- a number as it is written -/
def wd (h : Int) : List Nat := if h < 0 then 45 :: dg h.natAbs else dg h.natAbs
theorem wd_mk (h : Int) : Str.ofString (toString h) = mkS (wd h) := by
  rw [mk_of (Str.ofString (toString h))]
  rw [mk_inj]
  cases h with
  | ofNat m =>
    rw [show toString (Int.ofNat m) = toString ((m : Nat) : Int) from rfl, KIN.signs_num]
    unfold wd
    rw [if_neg (by show ¬ ((m : Int) < 0); omega)]
    rfl
  | negSucc m =>
    rw [signs_ofString]
    unfold wd
    rw [if_pos (Int.negSucc_lt_zero m)]
    show (("-" ++ Nat.repr (m + 1)).toList).map Char.toNat = _
    rw [String.toList_append, List.map_append, Nat.toList_repr]
    rfl

/-! words and lines -/
def figs (w : List Nat) : List Nat := if w.take 1 = [45] then w.drop 1 else w
def sgn (w : List Nat) (n : Nat) : Int := if w.take 1 = [45] then -(n : Int) else n
def bnd (v : Int) : Bool := decide (-1000000000000000000 ≤ v) && decide (v ≤ 1000000000000000000)
/-- the height that a word writes -/
def hOf (w : List Nat) : Option Int :=
  if 1 ≤ (figs w).length ∧ (figs w).length ≤ 19 ∧ (figs w).all isD = true ∧ dg (digitsVal (figs w)) = figs w ∧ w ≠ [45, 48] ∧ bnd (sgn w (digitsVal (figs w))) = true then some (sgn w (digitsVal (figs w))) else none
/-- the law's own reading -/
theorem hOf_eq (w : List Nat) : hOf w = if ¬ (figs w = []) ∧ (figs w).length ≤ 19 ∧ ¬ ((figs w).head? = some 48 ∧ w ≠ [48]) ∧ (figs w).all isD = true ∧ bnd (sgn w (digitsVal (figs w))) = true then some (sgn w (digitsVal (figs w))) else none := by
  unfold hOf
  congr 1
  rw [eq_iff_iff]
  by_cases hd' : ¬ ((figs w).all isD = true)
  · exact ⟨fun h => absurd h.2.2.1 hd', fun h => absurd h.2.2.2.1 hd'⟩
  have hd : (figs w).all isD = true := Decidable.not_not.mp hd'
  clear hd'
  cases hf : figs w with
  | nil => simp
  | cons c r =>
    rw [hf] at hd
    have ad := allD_iff.mp hd
    have key : (dg (digitsVal (c :: r)) = c :: r ∧ w ≠ [45, 48]) ↔ ¬ ((c :: r).head? = some 48 ∧ w ≠ [48]) := by
      rw [dg_iff ad, List.head?_cons]
      unfold figs at hf
      by_cases hm : w.take 1 = [45]
      · rw [if_pos hm] at hf
        have hw : w = 45 :: c :: r := by
          rw [← List.take_append_drop 1 w, hm, hf]; rfl
        subst hw
        simp only [ne_eq, List.cons.injEq, Nat.reduceEqDiff, true_and, false_and, not_false_eq_true, and_true, Option.some.injEq]
        constructor
        · rintro ⟨h1, h2⟩ rfl
          by_cases z : r = []
          · exact h2 ⟨rfl, z⟩
          · exact h1 ⟨rfl, z⟩
        · intro z
          exact ⟨fun y => z y.1, fun y => z y.1⟩
      · rw [if_neg hm] at hf
        subst hf
        simp only [ne_eq, List.cons.injEq, Option.some.injEq]
        constructor
        · rintro ⟨h1, _⟩ ⟨rfl, h2⟩
          exact h1 ⟨rfl, fun z => h2 ⟨rfl, z⟩⟩
        · intro z
          refine ⟨fun y => z ⟨y.1, fun q => y.2 q.2⟩, fun y => ?_⟩
          exact hm (by rw [y.1]; rfl)
    constructor
    · rintro ⟨h1, h2, h3, h4, h5, h6⟩
      exact ⟨by simp, h2, key.mp ⟨h4, h5⟩, h3, h6⟩
    · rintro ⟨h1, h2, h3, h4, h5⟩
      obtain ⟨k1, k2⟩ := key.mpr h3
      exact ⟨by simp, h2, h4, k1, k2, h5⟩
theorem hOf_wd {h : Int} (h1 : -1000000000000000000 ≤ h) (h2 : h ≤ 1000000000000000000) : hOf (wd h) = some h := by
  have hd := dg_digits h.natAbs
  have hne := dg_ne h.natAbs
  have hl := dg_len (m := h.natAbs) (k := 19) (by omega) (by omega)
  have fw : figs (wd h) = dg h.natAbs := by
    unfold figs wd
    by_cases q : h < 0
    · rw [if_pos q, if_pos (show List.take 1 (45 :: dg h.natAbs) = [45] from rfl)]; rfl
    · rw [if_neg q, if_neg fun z => ?_]
      cases e : dg h.natAbs with
      | nil => exact hne e
      | cons c r =>
        rw [e] at z hd
        injection z with z _
        have := hd c (by simp)
        omega
  have sw : sgn (wd h) h.natAbs = h := by
    unfold sgn wd
    by_cases q : h < 0
    · rw [if_pos q, if_pos (show List.take 1 (45 :: dg h.natAbs) = [45] from rfl)]; omega
    · rw [if_neg q, if_neg fun z => ?_]
      · omega
      cases e : dg h.natAbs with
      | nil => exact hne e
      | cons c r =>
        rw [e] at z hd
        injection z with z _
        have := hd c (by simp)
        omega
  unfold hOf
  rw [fw, dg_val, sw, if_pos]
  refine ⟨by cases e : dg h.natAbs with | nil => exact absurd e hne | cons c r => simp, hl, allD_iff.mpr hd, rfl, fun e => ?_, ?_⟩
  · unfold wd at e
    by_cases q : h < 0
    · rw [if_pos q] at e
      injection e with _ e
      have := dg_val h.natAbs
      rw [e] at this
      change 0 * 10 + (48 - 48) = h.natAbs at this
      omega
    · rw [if_neg q] at e
      have := hd 45 (by rw [e]; simp)
      omega
  · unfold bnd
    rw [decide_eq_true h1, decide_eq_true h2]; rfl
theorem wd_free (h : Int) : 32 ∉ wd h := by
  have hd := dg_digits h.natAbs
  unfold wd
  split
  · intro z
    rcases List.mem_cons.mp z with z | z
    · omega
    · have := hd 32 z; omega
  · intro z
    have := hd 32 z; omega

/-- words put together -/
def jn : List (List Nat) → List Nat
  | [] => []
  | [w] => w
  | w :: v :: r => w ++ 32 :: jn (v :: r)
theorem sjoin_mk : ∀ ws : List (List Nat), Str.join (mkS [32]) (ws.map mkS) = mkS (jn ws)
  | [] => rfl
  | [w] => rfl
  | w :: v :: r => by
    rw [List.map_cons, List.map_cons, join_cons_cons, ← List.map_cons, sjoin_mk (v :: r), mk_app, mk_app, jn, List.append_assoc]
    rfl
theorem join_mk (ws : List (List Nat)) : Txt.join (mkS [32]) (ws.map mkS) = mkS (jn ws) := by
  rw [← sjoin_mk]
  exact StrLaws.glued_eq_join _ _
theorem jn_inj : ∀ {ps qs : List (List Nat)}, ps ≠ [] → qs ≠ [] → (∀ p ∈ ps, 32 ∉ p) → (∀ q ∈ qs, 32 ∉ q) → jn ps = jn qs → ps = qs := by
  have cut : ∀ {a b s t : List Nat}, 32 ∉ a → 32 ∉ b → a ++ 32 :: s = b ++ 32 :: t → a = b ∧ s = t := by
    intro a
    induction a with
    | nil =>
      intro b s t _ hb e
      cases b with
      | nil => simp at e; exact ⟨rfl, e⟩
      | cons c b => simp at e; exact absurd (by simp [e.1]) hb
    | cons c a ih =>
      intro b s t ha hb e
      cases b with
      | nil => simp at e; exact absurd (by simp [e.1]) ha
      | cons d b =>
        simp only [List.cons_append, List.cons.injEq] at e
        obtain ⟨h1, h2⟩ := ih (fun z => ha (List.mem_cons_of_mem _ z)) (fun z => hb (List.mem_cons_of_mem _ z)) e.2
        exact ⟨by rw [e.1, h1], h2⟩
  intro ps
  induction ps with
  | nil => intro qs h; exact absurd rfl h
  | cons p ps ih =>
    intro qs _ hq fp fq e
    cases qs with
    | nil => exact absurd rfl hq
    | cons q qs =>
      cases ps with
      | nil =>
        cases qs with
        | nil => rw [show p = q from e]
        | cons q2 qs =>
          change p = q ++ 32 :: jn (q2 :: qs) at e
          exact absurd (by rw [e]; simp) (fp p (by simp))
      | cons p2 ps =>
        cases qs with
        | nil =>
          change p ++ 32 :: jn (p2 :: ps) = q at e
          exact absurd (by rw [← e]; simp) (fq q (by simp))
        | cons q2 qs =>
          change p ++ 32 :: jn (p2 :: ps) = q ++ 32 :: jn (q2 :: qs) at e
          obtain ⟨h1, h2⟩ := cut (fp p (by simp)) (fq q (by simp)) e
          rw [h1, ih (by simp) (by simp) (fun x hx => fp x (List.mem_cons_of_mem _ hx)) (fun x hx => fq x (List.mem_cons_of_mem _ hx)) h2]
/-- a line cut at its spaces -/
theorem split_ex (l : List Nat) : ∃ ps : List (List Nat), ps ≠ [] ∧ (∀ p ∈ ps, 32 ∉ p) ∧ jn ps = l ∧ Txt.split (mkS l) (mkS [32]) = ps.map mkS ∧ ps.length ≤ l.length + 2 := by
  have hj := StrLaws.join_split (mkS l) (mkS [32])
  have hf := StrLaws.split_free (mkS l) 32
  have hp := split_pos (mkS l) (mkS [32])
  have hle := split_le (mkS l) (mkS [32])
  rw [mk_len] at hle
  have em : Txt.split (mkS l) (mkS [32]) = ((Txt.split (mkS l) (mkS [32])).map fun x => x.cps.toList).map mkS := by
    rw [List.map_map]
    conv => lhs; rw [← List.map_id (Txt.split (mkS l) (mkS [32]))]
    exact List.map_congr_left fun x _ => mk_of x
  refine ⟨(Txt.split (mkS l) (mkS [32])).map fun x => x.cps.toList, fun e => ?_, fun p hp' => ?_, ?_, em, by rw [List.length_map]; exact hle⟩
  · rw [List.map_eq_nil_iff.mp e] at hp
    exact absurd hp (by decide)
  · obtain ⟨x, hx, rfl⟩ := List.mem_map.mp hp'
    exact hf x hx
  · have e1 := join_mk ((Txt.split (mkS l) (mkS [32])).map fun x => x.cps.toList)
    rw [← em] at e1
    have e2 : Txt.join (mkS [32]) (Txt.split (mkS l) (mkS [32])) = mkS l := (StrLaws.glued_eq_join _ _).trans hj
    rw [e2] at e1
    exact (mk_inj.mp e1).symm
/-- the words of a line -/
noncomputable def wds (l : List Nat) : List (List Nat) := (split_ex l).choose
theorem wds_ok (l : List Nat) : wds l ≠ [] ∧ (∀ p ∈ wds l, 32 ∉ p) ∧ jn (wds l) = l ∧ Txt.split (mkS l) (mkS [32]) = (wds l).map mkS ∧ (wds l).length ≤ l.length + 2 := (split_ex l).choose_spec
theorem wds_jn {ps : List (List Nat)} (h : ps ≠ []) (hf : ∀ p ∈ ps, 32 ∉ p) : wds (jn ps) = ps :=
  jn_inj (wds_ok _).1 h (wds_ok _).2.1 hf (wds_ok _).2.2.1
theorem jn_app : ∀ {ps qs : List (List Nat)}, ps ≠ [] → qs ≠ [] → jn (ps ++ qs) = jn ps ++ 32 :: jn qs
  | [], _, h, _ => absurd rfl h
  | [p], [], _, h => absurd rfl h
  | [p], q :: qs, _, _ => rfl
  | p :: p2 :: ps, qs, _, h => by
    have := jn_app (ps := p2 :: ps) (qs := qs) (by simp) h
    show p ++ 32 :: jn ((p2 :: ps) ++ qs) = (p ++ 32 :: jn (p2 :: ps)) ++ 32 :: jn qs
    rw [this]
    simp
/-- a word with spaces among words -/
theorem wds_mid {as bs : List (List Nat)} {x : List Nat} (ha : ∀ p ∈ as, 32 ∉ p) (hb : ∀ p ∈ bs, 32 ∉ p) : wds (jn (as ++ [x] ++ bs)) = as ++ wds x ++ bs := by
  obtain ⟨x1, x2, x3, _⟩ := wds_ok x
  have e : jn (as ++ [x] ++ bs) = jn (as ++ wds x ++ bs) := by
    have e1 : jn ([x] ++ bs) = jn (wds x ++ bs) := by
      cases bs with
      | nil => rw [List.append_nil, List.append_nil, x3]; rfl
      | cons b bs => rw [jn_app (by simp) (by simp), jn_app x1 (by simp), x3]; rfl
    cases as with
    | nil => simpa using e1
    | cons a as =>
      rw [List.append_assoc, List.append_assoc, jn_app (ps := a :: as) (qs := [x] ++ bs) (by simp) (by simp), jn_app (ps := a :: as) (qs := wds x ++ bs) (by simp) (by simp [x1]), e1]
  rw [e, wds_jn (by simp [x1]) fun p hp => ?_]
  simp only [List.mem_append] at hp
  rcases hp with (h | h) | h
  · exact ha p h
  · exact x2 p h
  · exact hb p h
theorem wds_sp {a b : List Nat} : wds (a ++ 32 :: b) = wds a ++ wds b := by
  obtain ⟨a1, a2, a3, _⟩ := wds_ok a
  obtain ⟨b1, b2, b3, _⟩ := wds_ok b
  have : a ++ 32 :: b = jn (wds a ++ wds b) := by rw [jn_app a1 b1, a3, b3]
  rw [this, wds_jn (by simp [a1]) fun p hp => ?_]
  rcases List.mem_append.mp hp with h | h
  · exact a2 p h
  · exact b2 p h
theorem wds_one {w : List Nat} (h : 32 ∉ w) : wds w = [w] := by
  have := wds_jn (ps := [w]) (by simp) (fun p hp => by rw [List.mem_singleton.mp hp]; exact h)
  exact this
theorem jn_len : ∀ (ws : List (List Nat)) (B : Nat), (∀ w ∈ ws, w.length ≤ B) → (jn ws).length ≤ ws.length * (B + 1)
  | [], B, _ => by simp [jn]
  | [w], B, h => by have := h w (by simp); simp [jn]; omega
  | w :: v :: r, B, h => by
    have h1 := h w (by simp)
    have h2 := jn_len (v :: r) B fun x hx => h x (List.mem_cons_of_mem _ hx)
    rw [jn, List.length_append, List.length_cons, List.length_cons, Nat.succ_mul]
    omega
end Mine

set_option autoImplicit false
namespace Mine
open PySem PySem.W PySem.Calls PySem.Spec PySem.NumText PyProof.Rows
section
variable {c : Cx} {X : XP} {l : Lo} {hp : List O} {K : KV} {pg : Pg} {sc : Scope} {ns : List Int} {lev : Nat} {qt : Bool}
/-- a comprehension that may raise, by what holds after each turn -/
theorem compX_inv (hc : CxIs c pg sc ns lev qt) {elt t : Expr} {csc : Scope} {its : List V} {need : St → Prop} {K : List O → Prop} (ck : compCk sc csc t = true) (J : Nat → List O → Prop) (h0 : J 0 (hp ++ [.list []])) (hl : its.length ≤ sizeLine) (hneed : ∀ k hp', J k hp' → need ⟨l, hp'⟩)
    (turn : ∀ (k : Nat) (hk : k < its.length) hp', J k hp' → ∃ bs, tgtV t its[k] = some bs ∧ ∀ c', CxIs c' pg (relab csc) ns lev qt → E c' (fun cls σ => X cls ⟨l, σ.hp⟩) elt (setAll (compLoc csc l) bs) hp' (fun v _ hp₂ => ∃ acc, hp₂[hp.length]? = some (.list acc) ∧ acc.length ≤ k ∧ J (k + 1) (hp₂.set hp.length (.list (acc ++ [v])))))
    (fin : ∀ hp', J its.length hp' → K hp') : CompX c X elt t csc its need l hp K := by
  obtain ⟨rfl⟩ := hc
  unfold compCk at ck
  simp only [Bool.and_eq_true] at ck
  unfold CompX
  refine ⟨J, fun fx F => ⟨h0, hneed, hl, ?_⟩, fin⟩
  intro k hp' hk hJ
  obtain ⟨bs, e, x⟩ := turn k hk hp' hJ
  have co := compOk_of F.sc ck.1.1
  refine ⟨bs, e, fun b hb => by simpa using tgt_ok ck.2 e b hb, fun fc allc e1 e2 e3 e5 e4 => ?_⟩
  have x := x _ ⟨rfl⟩
  unfold E at x
  exact x fc ⟨allc, e1.trans F.pg, e4.trans (relabel_eq co F.all.ok.kind), e2.trans F.ns, by rw [e3]; exact F.lev, fun z => e5.trans (F.qt z), nms_relab ck.1.2⟩
def asc (l : List Nat) : Prop := ∀ c ∈ l, c < 128
theorem asc_all {l : List Nat} (h : asc l) : (mkS l).cps.all (· < 128) = true := by
  show l.toArray.all _ = true
  rw [List.all_toArray, List.all_eq_true]
  exact fun c hc => decide_eq_true (h c hc)
theorem srv_mk {f : List Nat} {P : KI} (hc : CxIs c pg sc ns lev true) (ha : asc f) (h : P (f.map chV) (fun _ => True) l hp) : Srv c (.str (mkS f)) l hp P := srv_str hc (asc_all ha) h
end
theorem dash_mk : Str.ofString "-" = mkS [45] := of_mk (by decide)
theorem dash0_mk : Str.ofString "-0" = mkS [45, 48] := of_mk (by decide)
theorem nought_mk : Str.ofString "0" = mkS [48] := of_mk (by decide)
theorem empty_mk : Str.ofString "" = mkS [] := of_mk (by decide)
theorem sp_mk : Str.ofString " " = mkS [32] := of_mk (by decide)
theorem slice1 (w : List Nat) : Txt.slice (mkS w) none (some 1) = mkS (w.take 1) := slice_to w (by decide)
theorem slice1b (w : List Nat) : Txt.slice (mkS w) (some 1) none = mkS (w.drop 1) := slice_from w (by decide)
theorem take_dash (w : List Nat) : (Txt.slice (mkS w) none (some 1) == Str.ofString "-") = decide (w.take 1 = [45]) := by rw [slice1, dash_mk, mk_beq]
theorem figs_len (w : List Nat) : (figs w).length ≤ w.length := by
  unfold figs
  split
  · rw [List.length_drop]; omega
  · omega
theorem figs_asc {w : List Nat} (h : asc w) : asc (figs w) := by
  unfold figs
  split
  · exact fun c hc => h c (List.mem_of_mem_drop hc)
  · exact h
theorem sign_in (c : Nat) : Txt.contains (Str.ofString "0123456789") ⟨#[c]⟩ = isD c := by
  rw [digs_mk]
  exact (contains_one (mkS digs) c).trans (digs_mem c)
theorem sign_at {c : Nat} (h : isD c = true) : ∃ rest, Builtin.Str.occurrences (Str.ofString "0123456789") ⟨#[c]⟩ 0 (Str.ofString "0123456789").length 1 = (c - 48) :: rest := by
  unfold isD at h
  rw [Bool.and_eq_true, decide_eq_true_eq, decide_eq_true_eq] at h
  rw [digs_mk]
  have : c = 48 ∨ c = 49 ∨ c = 50 ∨ c = 51 ∨ c = 52 ∨ c = 53 ∨ c = 54 ∨ c = 55 ∨ c = 56 ∨ c = 57 := by omega
  rcases this with rfl | rfl | rfl | rfl | rfl | rfl | rfl | rfl | rfl | rfl <;> exact ⟨[], by decide +kernel⟩
theorem val_lt {l : List Nat} (h : AllDigits l) : digitsVal l < 10 ^ l.length := by
  have key : ∀ (l : List Nat) (a : Nat), AllDigits l → l.foldl (fun acc c => acc * 10 + (c - 48)) a < (a + 1) * 10 ^ l.length := by
    intro l
    induction l with
    | nil => intro a _; simp
    | cons c r ih =>
      intro a h
      have hc := h c (by simp)
      have := ih (a * 10 + (c - 48)) h.tail
      rw [List.foldl_cons, List.length_cons, Nat.pow_succ]
      have h2 : (a * 10 + (c - 48) + 1) * 10 ^ r.length ≤ ((a + 1) * 10) * 10 ^ r.length := Nat.mul_le_mul_right _ (by omega)
      have h3 : (a + 1) * (10 ^ r.length * 10) = ((a + 1) * 10) * 10 ^ r.length := by rw [Nat.mul_comm (10 ^ r.length) 10, Nat.mul_assoc]
      omega
  have := key l 0 h
  unfold digitsVal
  omega
theorem val_small {l : List Nat} (h : AllDigits l) (hl : l.length ≤ 19) : digitsVal l < 10 ^ 19 := Nat.lt_of_lt_of_le (val_lt h) (Nat.pow_le_pow_right (by decide) hl)
theorem log_small {a : Int} (h : a.natAbs < 10 ^ 20) : a.natAbs.log2 < 1920 := by
  by_cases q : a.natAbs = 0
  · rw [q]; decide
  · have h1 := Nat.log2_self_le q
    refine Decidable.byContradiction fun z => ?_
    have h2 : 2 ^ 1920 ≤ 2 ^ a.natAbs.log2 := Nat.pow_le_pow_right (by decide) (by omega)
    have h3 : (10 : Nat) ^ 20 ≤ 2 ^ 1920 := by decide +kernel
    omega
theorem wd_nat (n : Nat) : wd ((n : Nat) : Int) = dg n := by
  unfold wd
  rw [if_neg (by omega), Int.natAbs_natCast]
theorem hOf_none {w : List Nat} (h : ¬ (1 ≤ (figs w).length ∧ (figs w).length ≤ 19 ∧ (figs w).all isD = true ∧ dg (digitsVal (figs w)) = figs w ∧ w ≠ [45, 48] ∧ bnd (sgn w (digitsVal (figs w))) = true)) : hOf w = none := by unfold hOf; rw [if_neg h]
theorem hOf_some {w : List Nat} (h : 1 ≤ (figs w).length ∧ (figs w).length ≤ 19 ∧ (figs w).all isD = true ∧ dg (digitsVal (figs w)) = figs w ∧ w ≠ [45, 48] ∧ bnd (sgn w (digitsVal (figs w))) = true) : hOf w = some (sgn w (digitsVal (figs w))) := by unfold hOf; rw [if_pos h]
theorem hOf_none' {w : List Nat} (h : ¬ (¬ (figs w = []) ∧ (figs w).length ≤ 19 ∧ ¬ ((figs w).head? = some 48 ∧ w ≠ [48]) ∧ (figs w).all isD = true ∧ bnd (sgn w (digitsVal (figs w))) = true)) : hOf w = none := by rw [hOf_eq, if_neg h]
theorem hOf_some' {w : List Nat} (h : ¬ (figs w = []) ∧ (figs w).length ≤ 19 ∧ ¬ ((figs w).head? = some 48 ∧ w ≠ [48]) ∧ (figs w).all isD = true ∧ bnd (sgn w (digitsVal (figs w))) = true) : hOf w = some (sgn w (digitsVal (figs w))) := by rw [hOf_eq, if_pos h]
theorem bools_map {f : List Nat} {vs : List V} (hl : vs.length = f.length) (h : ∀ (j : Nat) (hj : j < vs.length), vs[j] = .bool (isD (f.getD j 0))) : vs = (f.map isD).map V.bool := by
  refine List.ext_getElem (by simp [hl]) fun j h1 h2 => ?_
  rw [h j h1]
  have : j < f.length := by omega
  simp [this]
theorem all_isD (f : List Nat) : (f.map isD).all id = f.all isD := by rw [List.all_map]; rfl
/-- a height, or none -/
def oV : Option Int → V
  | none => .none
  | some h => .int h
def oD : Option Int → PyData
  | none => .none
  | some h => .int h
theorem dats_o (hp : List O) : ∀ os : List (Option Int), Dats hp (os.map oV) (os.map oD)
  | [] => .nil
  | none :: r => .cons .none (dats_o hp r)
  | some h :: r => .cons (.int h) (dats_o hp r)
theorem lay_o : ∀ os : List (Option Int), PyData.canLayAll0 (os.map oD) = true
  | [] => by simp [PyData.canLayAll0]
  | none :: r => by simp [oD, PyData.canLayAll0, PyData.canLay0, lay_o r]
  | some h :: r => by simp [oD, PyData.canLayAll0, PyData.canLay0, lay_o r]
theorem any_o (os : List (Option Int)) : ((os.map oD).any fun y => PyData.eqv y .none) = decide (none ∈ os) := by
  rw [Bool.eq_iff_iff, List.any_eq_true, decide_eq_true_eq]
  constructor
  · rintro ⟨d, hd, e⟩
    obtain ⟨o, ho, rfl⟩ := List.mem_map.mp hd
    cases o with
    | none => exact ho
    | some h => simp [oD, PyData.eqv] at e
  · intro h
    exact ⟨oD none, List.mem_map_of_mem h, by simp [oD, PyData.eqv]⟩
theorem os_some {os : List (Option Int)} (h : none ∉ os) : ∃ xs : List Int, os = xs.map some := by
  induction os with
  | nil => exact ⟨[], rfl⟩
  | cons o r ih =>
    obtain ⟨xs, e⟩ := ih fun z => h (List.mem_cons_of_mem _ z)
    cases o with
    | none => exact absurd (by simp) h
    | some x => exact ⟨x :: xs, by rw [e]; rfl⟩
theorem oV_some (xs : List Int) : (xs.map some).map oV = xs.map V.int := by rw [List.map_map]; rfl
end Mine

section
open PySem PySem.W PyProof.Rows
namespace Mine
set_option maxRecDepth 100000
set_option maxHeartbeats 8000000
def hpick {α : Type} (l : List α) : List Nat → List α
  | [] => []
  | i :: is => match l[i]? with | some x => x :: hpick l is | none => hpick l is
def q11 : Program := { PySem.Challenge.pw_uf050038_11 with main := { PySem.Challenge.pw_uf050038_11.main with body := hpick PySem.Challenge.pw_uf050038_11.main.body [1, 2, 3, 4, 5, 6, 8, 10, 12, 13, 14, 16, 17, 18, 19, 20, 21, 22, 23, 24, 25, 26, 27, 28] } }
def lay : Nat → Nat → Frag → List Obj → List Obj
  | 0, _, _, _ => []
  | _ + 1, _, [], _ => []
  | n + 1, a, (b, o) :: ks, ms => match Nat.beq a b with
    | true => o :: lay n (a + 1) ks ms
    | false => match ms with
      | m :: ms => m :: lay n (a + 1) ((b, o) :: ks) ms
      | [] => []
def onAt : List Obj → Nat → (Obj → Obj) → List Obj
  | [], _, _ => []
  | o :: l, 0, f => f o :: l
  | o :: l, n + 1, f => o :: onAt l n f
def tr3 (m ep : Nat) (v : Value) : Obj → Obj
  | ⟨c, d, .dict es _, s⟩ => ⟨c, d, .dict ⟨match es.toList.take m with | [] => [] | e :: l => { e with val := v } :: l⟩ ep, s⟩
  | o => o
def tr12 (m : Nat) : Obj → Obj
  | ⟨c, d, .fields vs, s⟩ => ⟨c, d, .fields ⟨vs.toList.take m⟩, s⟩
  | o => o
def look (F : Frag) (a : Nat) : Obj := (F.lookup a).getD default
noncomputable def bootO (P : Params) (a : Nat) : Obj := ((boot_heap P).objs.toList[a]?).getD default
def tm : Obj → Obj
  | ⟨_, _, .func f, _⟩ => { cls := .none, data := .func { name := f.name, qualname := f.qualname, params := f.params, body := f.body, scope := f.scope, globals := 0, closure := [], defaults := .none, kwdefaults := .none } }
  | o => o
noncomputable def cutH (F : Params → Frag) (M : Params → Frag → List Obj) (n : Nat) (P : Params) (ov : List (Nat × (Obj → Obj))) : Heap := ⟨⟨ov.foldl (fun l x => onAt l x.1 x.2) (lay n 0 (F P) (M P (F P)))⟩, {}⟩
noncomputable def mis11 (P : Params) (F : Frag) : List Obj := [
  (bootO P 0),
  (bootO P 1),
  (bootO P 4),
  (bootO P 5),
  (bootO P 6),
  (bootO P 7),
  (bootO P 8),
  (bootO P 9),
  (bootO P 10),
  { cls := Value.type "tuple", data := Data.seq #[] },
  { cls := Value.none, data := Data.fields #[Value.int 2 0, Value.int 0 0, Value.ref 20, Value.int 4 0, Value.int 0 0, Value.ref 33, Value.int 6 0, Value.int 0 0, Value.ref 45, Value.int 8 0, Value.int 0 0, Value.ref 57, Value.int 10 0, Value.int 0 0, Value.ref 69, Value.int 12 0, Value.int 0 0, Value.ref 81, Value.int 17 0, Value.int 0 0, Value.ref 93, Value.int 22 0, Value.int 0 0, Value.ref 98, Value.int 24 0, Value.int 0 0, Value.ref 103, Value.int 38 0, Value.int 0 0, Value.ref 108, Value.int 46 0, Value.int 0 0, Value.ref 115, Value.int 54 0, Value.int 0 0, Value.ref 122, Value.int 56 0, Value.int 0 0, Value.ref 129, Value.int 60 0, Value.int 0 0, Value.ref 136, Value.int 71 0, Value.int 0 0, Value.ref 143, Value.int 79 0, Value.int 0 0, Value.ref 148, Value.int 85 0, Value.int 0 0, Value.ref 155, Value.int 94 0, Value.int 0 0, Value.ref 162, Value.int 100 0, Value.int 0 0, Value.ref 169, Value.int 108 0, Value.int 0 0, Value.ref 176, Value.int 124 0, Value.int 0 0, Value.ref 181, Value.int 132 0, Value.int 0 0, Value.ref 188, Value.int 142 0, Value.int 0 0, Value.ref 193] },
  { cls := Value.type "code", data := Data.fields #[Value.str (Str.ofString "<module>") 182, Value.str (Str.ofString "<module>") 183, Value.str (Str.ofString "/claim/cut.py") 184, Value.int 1 0, Value.int 0 0, Value.int 0 0, Value.int 0 0, Value.int 0 0, Value.ref 11, Value.bool false, Value.int 181 0, Value.ref 12, Value.none, Value.none, Value.none, Value.none, Value.int 185 0, Value.int 1 0, Value.str (Str.ofString "/claim/cut.py") 186] },
  { cls := Value.type "frame", slots := #[some (Value.ref 13), some (Value.ref 3), some (Value.ref 3), none, some (Value.str (Str.ofString "__main__") 164), none, some (Value.ref 0)] },
  { cls := Value.type "builtin_function_or_method", data := Data.fields #[Value.builtin "type.__prepare__", Value.type "type"] },
  { cls := Value.type "dict", data := Data.dict #[{ hash := PyData.keyHash P (Str.ofString "__module__"), key := Value.str (Str.ofString "__module__") 196, val := Value.str (Str.ofString "hillsight.errors") 187 }, { hash := PyData.keyHash P (Str.ofString "__qualname__"), key := Value.str (Str.ofString "__qualname__") 198, val := Value.str (Str.ofString "HillError") 197 }, { hash := PyData.keyHash P (Str.ofString "__firstlineno__"), key := Value.str (Str.ofString "__firstlineno__") 200, val := Value.int 2 199 }, { hash := PyData.keyHash P (Str.ofString "__static_attributes__"), key := Value.str (Str.ofString "__static_attributes__") 201, val := Value.ref 22 }] 4 },
  { cls := Value.type "tuple", data := Data.seq #[] },
  { cls := Value.none, data := Data.fields #[] },
  { cls := Value.type "code", data := Data.fields #[Value.str (Str.ofString "HillError") 191, Value.str (Str.ofString "HillError") 192, Value.str (Str.ofString "/claim/cut.py") 193, Value.int 2 0, Value.int 0 0, Value.int 0 0, Value.int 0 0, Value.int 0 0, Value.ref 18, Value.bool false, Value.int 181 0, Value.ref 19, Value.none, Value.none, Value.none, Value.none, Value.int 194 0, Value.int 2 0, Value.str (Str.ofString "/claim/cut.py") 195] },
  { cls := Value.type "frame", slots := #[some (Value.ref 20), some (Value.ref 3), some (Value.ref 17), none, some (Value.str (Str.ofString "hillsight.errors") 187), none, some (Value.ref 0)] },
  { cls := Value.type "super", data := Data.fields #[Value.ref 24, Value.ref 24, Value.ref 24] },
  { cls := Value.type "builtin_function_or_method", data := Data.fields #[Value.builtin "object.__init_subclass__", Value.ref 24] },
  { cls := Value.type "builtin_function_or_method", data := Data.fields #[Value.builtin "type.__prepare__", Value.type "type"] },
  { cls := Value.type "dict", data := Data.dict #[{ hash := PyData.keyHash P (Str.ofString "__module__"), key := Value.str (Str.ofString "__module__") 214, val := Value.str (Str.ofString "hillsight.errors") 187 }, { hash := PyData.keyHash P (Str.ofString "__qualname__"), key := Value.str (Str.ofString "__qualname__") 216, val := Value.str (Str.ofString "NoLand") 215 }, { hash := PyData.keyHash P (Str.ofString "__firstlineno__"), key := Value.str (Str.ofString "__firstlineno__") 218, val := Value.int 4 217 }, { hash := PyData.keyHash P (Str.ofString "__static_attributes__"), key := Value.str (Str.ofString "__static_attributes__") 219, val := Value.ref 35 }] 4 },
  { cls := Value.type "tuple", data := Data.seq #[] },
  { cls := Value.none, data := Data.fields #[] },
  { cls := Value.type "code", data := Data.fields #[Value.str (Str.ofString "NoLand") 209, Value.str (Str.ofString "NoLand") 210, Value.str (Str.ofString "/claim/cut.py") 211, Value.int 4 0, Value.int 0 0, Value.int 0 0, Value.int 0 0, Value.int 0 0, Value.ref 31, Value.bool false, Value.int 181 0, Value.ref 32, Value.none, Value.none, Value.none, Value.none, Value.int 212 0, Value.int 4 0, Value.str (Str.ofString "/claim/cut.py") 213] },
  { cls := Value.type "frame", slots := #[some (Value.ref 33), some (Value.ref 3), some (Value.ref 30), none, some (Value.str (Str.ofString "hillsight.errors") 187), none, some (Value.ref 0)] },
  { cls := Value.type "super", data := Data.fields #[Value.ref 37, Value.ref 37, Value.ref 37] },
  { cls := Value.type "builtin_function_or_method", data := Data.fields #[Value.builtin "object.__init_subclass__", Value.ref 37] },
  { cls := Value.type "builtin_function_or_method", data := Data.fields #[Value.builtin "type.__prepare__", Value.type "type"] },
  { cls := Value.type "dict", data := Data.dict #[{ hash := PyData.keyHash P (Str.ofString "__module__"), key := Value.str (Str.ofString "__module__") 230, val := Value.str (Str.ofString "hillsight.errors") 187 }, { hash := PyData.keyHash P (Str.ofString "__qualname__"), key := Value.str (Str.ofString "__qualname__") 232, val := Value.str (Str.ofString "NoHill") 231 }, { hash := PyData.keyHash P (Str.ofString "__firstlineno__"), key := Value.str (Str.ofString "__firstlineno__") 234, val := Value.int 6 233 }, { hash := PyData.keyHash P (Str.ofString "__static_attributes__"), key := Value.str (Str.ofString "__static_attributes__") 235, val := Value.ref 47 }] 4 },
  { cls := Value.type "tuple", data := Data.seq #[] },
  { cls := Value.none, data := Data.fields #[] },
  { cls := Value.type "code", data := Data.fields #[Value.str (Str.ofString "NoHill") 225, Value.str (Str.ofString "NoHill") 226, Value.str (Str.ofString "/claim/cut.py") 227, Value.int 6 0, Value.int 0 0, Value.int 0 0, Value.int 0 0, Value.int 0 0, Value.ref 43, Value.bool false, Value.int 181 0, Value.ref 44, Value.none, Value.none, Value.none, Value.none, Value.int 228 0, Value.int 6 0, Value.str (Str.ofString "/claim/cut.py") 229] },
  { cls := Value.type "frame", slots := #[some (Value.ref 45), some (Value.ref 3), some (Value.ref 42), none, some (Value.str (Str.ofString "hillsight.errors") 187), none, some (Value.ref 0)] },
  { cls := Value.type "super", data := Data.fields #[Value.ref 49, Value.ref 49, Value.ref 49] },
  { cls := Value.type "builtin_function_or_method", data := Data.fields #[Value.builtin "object.__init_subclass__", Value.ref 49] },
  { cls := Value.type "builtin_function_or_method", data := Data.fields #[Value.builtin "type.__prepare__", Value.type "type"] },
  { cls := Value.type "dict", data := Data.dict #[{ hash := PyData.keyHash P (Str.ofString "__module__"), key := Value.str (Str.ofString "__module__") 246, val := Value.str (Str.ofString "hillsight.errors") 187 }, { hash := PyData.keyHash P (Str.ofString "__qualname__"), key := Value.str (Str.ofString "__qualname__") 248, val := Value.str (Str.ofString "SameHill") 247 }, { hash := PyData.keyHash P (Str.ofString "__firstlineno__"), key := Value.str (Str.ofString "__firstlineno__") 250, val := Value.int 8 249 }, { hash := PyData.keyHash P (Str.ofString "__static_attributes__"), key := Value.str (Str.ofString "__static_attributes__") 251, val := Value.ref 59 }] 4 },
  { cls := Value.type "tuple", data := Data.seq #[] },
  { cls := Value.none, data := Data.fields #[] },
  { cls := Value.type "code", data := Data.fields #[Value.str (Str.ofString "SameHill") 241, Value.str (Str.ofString "SameHill") 242, Value.str (Str.ofString "/claim/cut.py") 243, Value.int 8 0, Value.int 0 0, Value.int 0 0, Value.int 0 0, Value.int 0 0, Value.ref 55, Value.bool false, Value.int 181 0, Value.ref 56, Value.none, Value.none, Value.none, Value.none, Value.int 244 0, Value.int 8 0, Value.str (Str.ofString "/claim/cut.py") 245] },
  { cls := Value.type "frame", slots := #[some (Value.ref 57), some (Value.ref 3), some (Value.ref 54), none, some (Value.str (Str.ofString "hillsight.errors") 187), none, some (Value.ref 0)] },
  { cls := Value.type "super", data := Data.fields #[Value.ref 61, Value.ref 61, Value.ref 61] },
  { cls := Value.type "builtin_function_or_method", data := Data.fields #[Value.builtin "object.__init_subclass__", Value.ref 61] },
  { cls := Value.type "builtin_function_or_method", data := Data.fields #[Value.builtin "type.__prepare__", Value.type "type"] },
  { cls := Value.type "dict", data := Data.dict #[{ hash := PyData.keyHash P (Str.ofString "__module__"), key := Value.str (Str.ofString "__module__") 262, val := Value.str (Str.ofString "hillsight.errors") 187 }, { hash := PyData.keyHash P (Str.ofString "__qualname__"), key := Value.str (Str.ofString "__qualname__") 264, val := Value.str (Str.ofString "TooHigh") 263 }, { hash := PyData.keyHash P (Str.ofString "__firstlineno__"), key := Value.str (Str.ofString "__firstlineno__") 266, val := Value.int 10 265 }, { hash := PyData.keyHash P (Str.ofString "__static_attributes__"), key := Value.str (Str.ofString "__static_attributes__") 267, val := Value.ref 71 }] 4 },
  { cls := Value.type "tuple", data := Data.seq #[] },
  { cls := Value.none, data := Data.fields #[] },
  { cls := Value.type "code", data := Data.fields #[Value.str (Str.ofString "TooHigh") 257, Value.str (Str.ofString "TooHigh") 258, Value.str (Str.ofString "/claim/cut.py") 259, Value.int 10 0, Value.int 0 0, Value.int 0 0, Value.int 0 0, Value.int 0 0, Value.ref 67, Value.bool false, Value.int 181 0, Value.ref 68, Value.none, Value.none, Value.none, Value.none, Value.int 260 0, Value.int 10 0, Value.str (Str.ofString "/claim/cut.py") 261] },
  { cls := Value.type "frame", slots := #[some (Value.ref 69), some (Value.ref 3), some (Value.ref 66), none, some (Value.str (Str.ofString "hillsight.errors") 187), none, some (Value.ref 0)] },
  { cls := Value.type "super", data := Data.fields #[Value.ref 73, Value.ref 73, Value.ref 73] },
  { cls := Value.type "builtin_function_or_method", data := Data.fields #[Value.builtin "object.__init_subclass__", Value.ref 73] },
  { cls := Value.type "builtin_function_or_method", data := Data.fields #[Value.builtin "type.__prepare__", Value.type "type"] },
  { cls := Value.type "dict", data := Data.dict #[{ hash := PyData.keyHash P (Str.ofString "__module__"), key := Value.str (Str.ofString "__module__") 278, val := Value.str (Str.ofString "hillsight.errors") 187 }, { hash := PyData.keyHash P (Str.ofString "__qualname__"), key := Value.str (Str.ofString "__qualname__") 280, val := Value.str (Str.ofString "NothingDone") 279 }, { hash := PyData.keyHash P (Str.ofString "__firstlineno__"), key := Value.str (Str.ofString "__firstlineno__") 282, val := Value.int 12 281 }, { hash := PyData.keyHash P (Str.ofString "__static_attributes__"), key := Value.str (Str.ofString "__static_attributes__") 283, val := Value.ref 83 }] 4 },
  { cls := Value.type "tuple", data := Data.seq #[] },
  { cls := Value.none, data := Data.fields #[] },
  { cls := Value.type "code", data := Data.fields #[Value.str (Str.ofString "NothingDone") 273, Value.str (Str.ofString "NothingDone") 274, Value.str (Str.ofString "/claim/cut.py") 275, Value.int 12 0, Value.int 0 0, Value.int 0 0, Value.int 0 0, Value.int 0 0, Value.ref 79, Value.bool false, Value.int 181 0, Value.ref 80, Value.none, Value.none, Value.none, Value.none, Value.int 276 0, Value.int 12 0, Value.str (Str.ofString "/claim/cut.py") 277] },
  { cls := Value.type "frame", slots := #[some (Value.ref 81), some (Value.ref 3), some (Value.ref 78), none, some (Value.str (Str.ofString "hillsight.errors") 187), none, some (Value.ref 0)] },
  { cls := Value.type "super", data := Data.fields #[Value.ref 85, Value.ref 85, Value.ref 85] },
  { cls := Value.type "builtin_function_or_method", data := Data.fields #[Value.builtin "object.__init_subclass__", Value.ref 85] },
  { cls := Value.none, data := Data.fields #[] },
  (tm (look F 94)),
  { cls := Value.none, data := Data.fields #[] },
  (tm (look F 99)),
  { cls := Value.none, data := Data.fields #[] },
  (tm (look F 104)),
  { cls := Value.none, data := Data.fields #[] },
  (tm (look F 109)),
  { cls := Value.none, data := Data.fields #[] },
  (tm (look F 116)),
  { cls := Value.none, data := Data.fields #[] },
  (tm (look F 123)),
  { cls := Value.none, data := Data.fields #[] },
  (tm (look F 130)),
  { cls := Value.none, data := Data.fields #[] },
  (tm (look F 137)),
  { cls := Value.none, data := Data.fields #[] },
  (tm (look F 144)),
  { cls := Value.none, data := Data.fields #[] },
  (tm (look F 149)),
  { cls := Value.none, data := Data.fields #[] },
  (tm (look F 156)),
  { cls := Value.none, data := Data.fields #[] },
  (tm (look F 163)),
  { cls := Value.none, data := Data.fields #[] },
  (tm (look F 170)),
  { cls := Value.none, data := Data.fields #[] },
  (tm (look F 177)),
  { cls := Value.none, data := Data.fields #[] },
  (tm (look F 182)),
  { cls := Value.none, data := Data.fields #[] },
  (tm (look F 189)),
  { cls := Value.none, data := Data.fields #[] },
  (tm (look F 194))]
def env11 : Env := { scope := PySem.Challenge.pw_uf050038_11.main.scope, locals := mainNs, globals := mainNs, cells := [], code := Value.ref 13, frame := some 14 }
def cod11 : Code := .body (behindTheImports PySem.Challenge.pw_uf050038_11) env11
noncomputable def hp11_0 (F : Params → Frag) : Params → Heap := fun P => cutH F mis11 15 P [(3, tr3 9 9 (Value.str (Str.ofString "__main__") 164)), (12, tr12 0)]
noncomputable def hp11_1 (F : Params → Frag) : Params → Heap := fun P => cutH F mis11 52 P [(3, tr3 12 12 (Value.str (Str.ofString "hillsight.errors") 187)), (12, tr12 9), (24, fun _ => ({ cls := Value.type "type", data := Data.cls { name := Str.ofString "HillError", bases := [Value.type "ValueError"], mro := [Value.ref 24, Value.type "ValueError", Value.type "Exception", Value.type "BaseException", Value.type "object"], ns := 23, qualname := Str.ofString "HillError", subclasses := [Value.ref 37, Value.ref 49] }, slots := #[some (Value.ref 15), none, some (Value.str (Str.ofString "HillError") 189), some (Value.str (Str.ofString "HillError") 197), some (Value.builtin "ValueError.__new__"), some (Value.bool true)] } : Obj))]
noncomputable def hp11_2 (F : Params → Frag) : Params → Heap := fun P => cutH F mis11 88 P [(3, tr3 15 15 (Value.str (Str.ofString "hillsight.lands") 287)), (12, tr12 18)]
noncomputable def hp11_3 (F : Params → Frag) : Params → Heap := fun P => cutH F mis11 195 P []
def sts11_1 : List Stmt := ((PySem.Challenge.pw_uf050038_11.main.body.drop 0).take 4)
def sts11_2 : List Stmt := ((PySem.Challenge.pw_uf050038_11.main.body.drop 4).take 4)
def sts11_3 : List Stmt := ((PySem.Challenge.pw_uf050038_11.main.body.drop 8).take 21)
theorem cutK {p q : Program} {loose : List Str} {Xt : Shared → Bool} {α : Type} {Yf : Shared → α} {Ya : World → α} {N : Nat} {g0 : Bool} {Ha H1 H2 H3 : Params → Heap} {ka k1 k2 k3 m₀ na nb n1 n2 n3 nf M : Nat} {ann : Option Value} {b l1 l2 l3 : List Stmt} {env : Env} {c : Code} {q0 pa pb p1 p2 p3 : Pos}
    (open_ : ∀ w : World, (fencedOpening treeTable p w N).map (fun s => (s.heap, s.gens, s.drawn, s.toks)) = some (boot_heap w.params, Array.mk [], boot_drawn, boot_toks))
    (size : ∀ w : World, ((boot_heap w.params).isNs mainGlobals && (Array.mk [] : Array GenState).size == 0, (boot_heap w.params).objs.size, (boot_heap w.params).nsMap mainGlobals "__annotations__") = (true, m₀, ann))
    (pre : ∀ (w : World) (os : OsState), topGo treeTable p w m₀ ann na ⟨boot_heap w.params, Array.mk [], boot_drawn, boot_toks, os⟩ (topStub p) = some (⟨Ha w.params, Array.mk [], boot_drawn, ka, os⟩, ⟨denote treeTable (.body b env), c, pa, [topFrame q0]⟩))
    (block : ∀ (w : World) (os : OsState), segRun treeTable p w m₀ ann 1 nb ⟨Ha w.params, Array.mk [], boot_drawn, ka, os⟩ (blockOf b env c pa [topFrame q0]) = some (.next, ⟨Ha w.params, Array.mk [], boot_drawn, ka, os⟩, c, pb))
    (hb : b = l1 ++ (l2 ++ (l3 ++ [])))
    (s1 : ∀ (w : World) (os : OsState), segRun treeTable p w m₀ ann 1 n1 ⟨Ha w.params, Array.mk [], boot_drawn, ka, os⟩ (piecesOf l1 env c pb [topFrame q0]) = some (.next, ⟨H1 w.params, Array.mk [], boot_drawn, k1, os⟩, c, p1))
    (s2 : ∀ (w : World) (os : OsState), segRun treeTable p w m₀ ann 1 n2 ⟨H1 w.params, Array.mk [], boot_drawn, k1, os⟩ (piecesOf l2 env c p1 [topFrame q0]) = some (.next, ⟨H2 w.params, Array.mk [], boot_drawn, k2, os⟩, c, p2))
    (s3 : ∀ (w : World) (os : OsState), segRun treeTable p w m₀ ann 1 n3 ⟨H2 w.params, Array.mk [], boot_drawn, k2, os⟩ (piecesOf l3 env c p2 [topFrame q0]) = some (.next, ⟨H3 w.params, Array.mk [], boot_drawn, k3, os⟩, c, p3))
    (fin : ∀ (w : World) (os : OsState), topRun treeTable p w m₀ ann nf ⟨H3 w.params, Array.mk [], boot_drawn, k3, os⟩ ⟨doneF .next, c, p3, [topFrame q0]⟩ = some ⟨H3 w.params, Array.mk [], boot_drawn, k3, os⟩)
    (hM : M = na + (nb + (n1 + (n2 + (n3 + nf))))) (le : Nat.ble M N = true)
    (looks1 : ∀ (w : World) (os : OsState), (staticsOk (importedModules p.main.body) (boot_heap w.params) (H3 w.params) && namesBound p (H3 w.params) && gensDone ⟨H3 w.params, Array.mk [], boot_drawn, k3, os⟩ && laidKept (boot_heap w.params) (H3 w.params)) = true)
    (looks2 : ∀ (w : World) (os : OsState), openSeen q loose (importedModules p.main.body) Xt g0 ⟨H3 w.params, Array.mk [], boot_drawn, k3, os⟩ = openGood q loose)
    (looks3 : ∀ (w : World) (os : OsState), Yf ⟨H3 w.params, Array.mk [], boot_drawn, k3, os⟩ = Ya w) : LeftO p q loose Xt Yf Ya N g0 := by
  refine LeftO.of_pieces open_ size (fun w os => ?_) le (fun w => funext fun os => by rw [looks1, looks2, looks3])
  subst hM
  refine go_top (pre w os) (piece_block (block w os) ?_)
  rw [hb]
  exact (piece_app (s1 w os) (piece_app (s2 w os) (piece_app (s3 w os) (piece_nil (fin w os)))))
def domA {A B C : Prop} (_ : A ∧ B → C) : Prop := A
theorem both_of {A B C : Prop} (f : A ∧ B → C) (a : domA f) (b : B) : C := f ⟨a, b⟩
set_option hygiene false in
local macro_rules | `(tactic| o_law) => `(tactic| refine holds_law (by decide +kernel) fun said => ?_)
set_option hygiene false in
local macro_rules | `(tactic| o_head $H:term) => `(tactic| (refine holds_open (q := Mine.q11) (loose := [Str.ofString "MOST_HEIGHT"]) (Xt := fun s => xlAt Mine.q11 [(Str.ofString "MOST_HEIGHT", WData.int 1000000000000000000)] s && recOk (RowW.records (PySem.W.OpenRow.toRowW (PySem.W.OpenLaw.row PySem.Challenge.rw_uf050038_11))) s) (XP := XL Mine.q11 [(Str.ofString "MOST_HEIGHT", WData.int 1000000000000000000)]) (Yf := Hook.obs $H) (Ya := Hook.val $H) (YP := Hook.says $H) (N := 3754) (And.left ?hc) (Hook.of $H) (Hook.keeps $H) (fun s e => xl_of s (Bool.and_eq_true_iff.mp e).1) XL.keeps (by rfl) (by rfl) (by rfl) (fun s e => recFacts_of (Bool.and_eq_true_iff.mp e).2) (by rfl) (by first | assumption | decide +kernel) (by decide +kernel) ⟨rfl, rfl, rfl, rfl, rfl, by decide +kernel⟩ ?hw (And.right ?hc); all_goals (try clear said)))
open_top hd11 for PySem.Challenge.rw_uf050038_11
theorem ts11_1 (w : World) (os : OsState) : segRun treeTable (PySem.W.OpenLaw.row PySem.Challenge.rw_uf050038_11).prog w 11 (some (Value.ref 6)) 1 622 (⟨hp11_0 Mine.hd11.heap_1 w.params, Array.mk [], boot_drawn, 187, os⟩ : Shared) (piecesOf sts11_1 env11 cod11 { line := 0, col := 0, endLine := 0, endCol := 0 } [topFrame { line := 0, col := 0, endLine := 0, endCol := 0 }]) = some (.next, (⟨hp11_1 Mine.hd11.heap_1 w.params, Array.mk [], boot_drawn, 239, os⟩ : Shared), cod11, { line := 6, col := 0, endLine := 7, endCol := 8 }) := by kernel_rfl
theorem ts11_2 (w : World) (os : OsState) : segRun treeTable (PySem.W.OpenLaw.row PySem.Challenge.rw_uf050038_11).prog w 11 (some (Value.ref 6)) 1 649 (⟨hp11_1 Mine.hd11.heap_1 w.params, Array.mk [], boot_drawn, 239, os⟩ : Shared) (piecesOf sts11_2 env11 cod11 { line := 6, col := 0, endLine := 7, endCol := 8 } [topFrame { line := 0, col := 0, endLine := 0, endCol := 0 }]) = some (.next, (⟨hp11_2 Mine.hd11.heap_1 w.params, Array.mk [], boot_drawn, 289, os⟩ : Shared), cod11, { line := 14, col := 0, endLine := 14, endCol := 8 }) := by kernel_rfl
theorem ts11_3 (w : World) (os : OsState) : segRun treeTable (PySem.W.OpenLaw.row PySem.Challenge.rw_uf050038_11).prog w 11 (some (Value.ref 6)) 1 546 (⟨hp11_2 Mine.hd11.heap_1 w.params, Array.mk [], boot_drawn, 289, os⟩ : Shared) (piecesOf sts11_3 env11 cod11 { line := 14, col := 0, endLine := 14, endCol := 8 } [topFrame { line := 0, col := 0, endLine := 0, endCol := 0 }]) = some (.next, (⟨hp11_3 Mine.hd11.heap_1 w.params, Array.mk [], boot_drawn, 440, os⟩ : Shared), cod11, { line := 142, col := 0, endLine := 163, endCol := 65 }) := by kernel_rfl
theorem left11 : domA Mine.hd11 := by
  delta domA
  exact cutK (Ha := hp11_0 Mine.hd11.heap_1) (ka := 187) (m₀ := 11) (ann := some (Value.ref 6)) (na := 12) (nb := 1) (nf := 2) (b := behindTheImports PySem.Challenge.pw_uf050038_11) (env := env11) (c := cod11) (q0 := { line := 0, col := 0, endLine := 0, endCol := 0 }) (pa := { line := 0, col := 0, endLine := 0, endCol := 0 }) (pb := { line := 0, col := 0, endLine := 0, endCol := 0 }) (H1 := hp11_1 Mine.hd11.heap_1) (k1 := 239) (n1 := 622) (l1 := sts11_1) (p1 := { line := 6, col := 0, endLine := 7, endCol := 8 }) (H2 := hp11_2 Mine.hd11.heap_1) (k2 := 289) (n2 := 649) (l2 := sts11_2) (p2 := { line := 14, col := 0, endLine := 14, endCol := 8 }) (H3 := hp11_3 Mine.hd11.heap_1) (k3 := 440) (n3 := 546) (l3 := sts11_3) (p3 := { line := 142, col := 0, endLine := 163, endCol := 65 }) (M := 1832) (boot_open (by kernel_rfl) (by decide +kernel) (fun s => by kernel_rfl)) (by intro w; kernel_rfl) (by intro w os; kernel_rfl) (by intro w os; kernel_rfl) (by kernel_rfl) ts11_1 ts11_2 ts11_3 (by intro w os; kernel_rfl) (by kernel_rfl) (by decide +kernel) (by intro w os; kernel_rfl) (by intro w os; kernel_rfl) (by intro w os; kernel_rfl)
end Mine
end

set_option autoImplicit false
namespace Mine
open PySem PySem.W PySem.Calls PySem.Spec PyProof.Rows
set_option Elab.async false
set_option linter.unusedSimpArgs false
set_option linter.unusedVariables false

noncomputable abbrev pgo (prog : Program) (w : World) (p : Program) (loose : List Str) (mean : ExcName → Option Value) (mg mb : Str → Option Value) : Pg := ⟨prog, w, Mine.hd11.heap_1 w.params, p, loose, mean, mg, mb⟩
section
variable {prog : Program} {w : World} {p : Program} {loose : List Str} {mean : ExcName → Option Value} {mg mb : Str → Option Value} {lev : Nat} {ns : List Int}
set_option maxRecDepth 100000
set_option maxHeartbeats 8000000

theorem gl_len : (pgo prog w p loose mean mg mb).gl "len" = some (.builtin "len") := by kernel_rfl
theorem gl_isinstance : (pgo prog w p loose mean mg mb).gl "isinstance" = some (.builtin "isinstance") := by kernel_rfl
theorem gl_all : (pgo prog w p loose mean mg mb).gl "all" = some (.builtin "all") := by kernel_rfl
theorem gl_abs : (pgo prog w p loose mean mg mb).gl "abs" = some (.builtin "abs") := by kernel_rfl
theorem gl_range : (pgo prog w p loose mean mg mb).gl "range" = some (.type "range") := by kernel_rfl
theorem gl_list : (pgo prog w p loose mean mg mb).gl "list" = some (.type "list") := by kernel_rfl
theorem gl_int : (pgo prog w p loose mean mg mb).gl "int" = some (.type "int") := by kernel_rfl
theorem gl_bool : (pgo prog w p loose mean mg mb).gl "bool" = some (.type "bool") := by kernel_rfl
theorem gl_str : (pgo prog w p loose mean mg mb).gl "str" = some (.type "str") := by kernel_rfl
theorem gl_ValueError : (pgo prog w p loose mean mg mb).gl "ValueError" = some (.type "ValueError") := by kernel_rfl
theorem gl_HillError : (pgo prog w p loose mean mg mb).gl "HillError" = some (.ref 24) := by kernel_rfl
theorem gl_NoLand : (pgo prog w p loose mean mg mb).gl "NoLand" = some (.ref 37) := by kernel_rfl
theorem gl_NoHill : (pgo prog w p loose mean mg mb).gl "NoHill" = some (.ref 49) := by kernel_rfl
theorem gl_SameHill : (pgo prog w p loose mean mg mb).gl "SameHill" = some (.ref 61) := by kernel_rfl
theorem gl_TooHigh : (pgo prog w p loose mean mg mb).gl "TooHigh" = some (.ref 73) := by kernel_rfl
theorem gl_NothingDone : (pgo prog w p loose mean mg mb).gl "NothingDone" = some (.ref 85) := by kernel_rfl
theorem gl_is_height : (pgo prog w p loose mean mg mb).gl "is_height" = some (.ref 94) := by kernel_rfl
theorem gl_sole : (pgo prog w p loose mean mg mb).gl "_law_sole" = some (.ref 116) := by kernel_rfl
theorem gl_whole : (pgo prog w p loose mean mg mb).gl "_law_whole" = some (.ref 123) := by kernel_rfl
theorem gl_cell_at : (pgo prog w p loose mean mg mb).gl "_law_cell_at" = some (.ref 130) := by kernel_rfl
theorem gl_height_by : (pgo prog w p loose mean mg mb).gl "_law_height_by" = some (.ref 137) := by kernel_rfl
theorem gl_longer : (pgo prog w p loose mean mg mb).gl "_law_longer" = some (.ref 144) := by kernel_rfl
theorem gl_land_by : (pgo prog w p loose mean mg mb).gl "_law_land_by" = some (.ref 149) := by kernel_rfl
theorem gl_refused : (pgo prog w p loose mean mg mb).gl "_law_refused" = some (.ref 170) := by kernel_rfl
theorem gl_shown : (pgo prog w p loose mean mg mb).gl "shown" = some (.ref 99) := by kernel_rfl
theorem gl_height_in : (pgo prog w p loose mean mg mb).gl "height_in" = some (.ref 104) := by kernel_rfl
theorem gl_read : (pgo prog w p loose mean mg mb).gl "read" = some (.ref 109) := by kernel_rfl
theorem gl_figures_by : (pgo prog w p loose mean mg mb).gl "_law_figures_by" = some (.ref 156) := by kernel_rfl
theorem gl_wrong_by : (pgo prog w p loose mean mg mb).gl "_law_wrong_by" = some (.ref 163) := by kernel_rfl
theorem gl_height_of : (pgo prog w p loose mean mg mb).gl "_law_height_of" = some (.ref 177) := by kernel_rfl
theorem gl_read_alike : (pgo prog w p loose mean mg mb).gl "_law_read_alike" = some (.ref 182) := by kernel_rfl
theorem gl_changed : (pgo prog w p loose mean mg mb).gl "_law_changed" = some (.ref 189) := by kernel_rfl
theorem gl_MOST_HILLS : (pgo prog w p loose mean mg mb).gl "MOST_HILLS" = some (.int 200 289) := by kernel_rfl
theorem gl_MOST_HEIGHT : (pgo prog w p loose mean mg mb).gl "MOST_HEIGHT" = some (.int 1000000000000000000 293) := by kernel_rfl
theorem exm_NoLand_HillError : exmOne (pgo prog w p loose mean mg mb).K (.ref 37) (.ref 24) = some true := by kernel_rfl
theorem exm_NoLand_NoLand : exmOne (pgo prog w p loose mean mg mb).K (.ref 37) (.ref 37) = some true := by kernel_rfl
theorem exm_NoLand_NoHill : exmOne (pgo prog w p loose mean mg mb).K (.ref 37) (.ref 49) = some false := by kernel_rfl
theorem exm_NoLand_SameHill : exmOne (pgo prog w p loose mean mg mb).K (.ref 37) (.ref 61) = some false := by kernel_rfl
theorem exm_NoLand_TooHigh : exmOne (pgo prog w p loose mean mg mb).K (.ref 37) (.ref 73) = some false := by kernel_rfl
theorem exm_NoLand_NothingDone : exmOne (pgo prog w p loose mean mg mb).K (.ref 37) (.ref 85) = some false := by kernel_rfl
theorem exm_NoHill_HillError : exmOne (pgo prog w p loose mean mg mb).K (.ref 49) (.ref 24) = some true := by kernel_rfl
theorem exm_NoHill_NoLand : exmOne (pgo prog w p loose mean mg mb).K (.ref 49) (.ref 37) = some false := by kernel_rfl
theorem exm_NoHill_NoHill : exmOne (pgo prog w p loose mean mg mb).K (.ref 49) (.ref 49) = some true := by kernel_rfl
theorem exm_NoHill_SameHill : exmOne (pgo prog w p loose mean mg mb).K (.ref 49) (.ref 61) = some false := by kernel_rfl
theorem exm_NoHill_TooHigh : exmOne (pgo prog w p loose mean mg mb).K (.ref 49) (.ref 73) = some false := by kernel_rfl
theorem exm_NoHill_NothingDone : exmOne (pgo prog w p loose mean mg mb).K (.ref 49) (.ref 85) = some false := by kernel_rfl
theorem exm_SameHill_HillError : exmOne (pgo prog w p loose mean mg mb).K (.ref 61) (.ref 24) = some true := by kernel_rfl
theorem exm_SameHill_NoLand : exmOne (pgo prog w p loose mean mg mb).K (.ref 61) (.ref 37) = some false := by kernel_rfl
theorem exm_SameHill_NoHill : exmOne (pgo prog w p loose mean mg mb).K (.ref 61) (.ref 49) = some false := by kernel_rfl
theorem exm_SameHill_SameHill : exmOne (pgo prog w p loose mean mg mb).K (.ref 61) (.ref 61) = some true := by kernel_rfl
theorem exm_SameHill_TooHigh : exmOne (pgo prog w p loose mean mg mb).K (.ref 61) (.ref 73) = some false := by kernel_rfl
theorem exm_SameHill_NothingDone : exmOne (pgo prog w p loose mean mg mb).K (.ref 61) (.ref 85) = some false := by kernel_rfl
theorem exm_TooHigh_HillError : exmOne (pgo prog w p loose mean mg mb).K (.ref 73) (.ref 24) = some true := by kernel_rfl
theorem exm_TooHigh_NoLand : exmOne (pgo prog w p loose mean mg mb).K (.ref 73) (.ref 37) = some false := by kernel_rfl
theorem exm_TooHigh_NoHill : exmOne (pgo prog w p loose mean mg mb).K (.ref 73) (.ref 49) = some false := by kernel_rfl
theorem exm_TooHigh_SameHill : exmOne (pgo prog w p loose mean mg mb).K (.ref 73) (.ref 61) = some false := by kernel_rfl
theorem exm_TooHigh_TooHigh : exmOne (pgo prog w p loose mean mg mb).K (.ref 73) (.ref 73) = some true := by kernel_rfl
theorem exm_TooHigh_NothingDone : exmOne (pgo prog w p loose mean mg mb).K (.ref 73) (.ref 85) = some false := by kernel_rfl
theorem exm_NothingDone_HillError : exmOne (pgo prog w p loose mean mg mb).K (.ref 85) (.ref 24) = some true := by kernel_rfl
theorem exm_NothingDone_NoLand : exmOne (pgo prog w p loose mean mg mb).K (.ref 85) (.ref 37) = some false := by kernel_rfl
theorem exm_NothingDone_NoHill : exmOne (pgo prog w p loose mean mg mb).K (.ref 85) (.ref 49) = some false := by kernel_rfl
theorem exm_NothingDone_SameHill : exmOne (pgo prog w p loose mean mg mb).K (.ref 85) (.ref 61) = some false := by kernel_rfl
theorem exm_NothingDone_TooHigh : exmOne (pgo prog w p loose mean mg mb).K (.ref 85) (.ref 73) = some false := by kernel_rfl
theorem exm_NothingDone_NothingDone : exmOne (pgo prog w p loose mean mg mb).K (.ref 85) (.ref 85) = some true := by kernel_rfl
theorem xcf_NoLand : XcFacts (pgo prog w p loose mean mg mb).K 37 := ⟨by kernel_rfl, by kernel_rfl, by kernel_rfl, by kernel_rfl, by kernel_rfl, by kernel_rfl, by kernel_rfl⟩
theorem kit_NoLand_HillError : kitOne (pgo prog w p loose mean mg mb).K (.ref 37) (.ref 24) = some true := by kernel_rfl
theorem kit_NoLand_NoLand : kitOne (pgo prog w p loose mean mg mb).K (.ref 37) (.ref 37) = some true := by kernel_rfl
theorem kit_NoLand_NoHill : kitOne (pgo prog w p loose mean mg mb).K (.ref 37) (.ref 49) = some false := by kernel_rfl
theorem kit_NoLand_SameHill : kitOne (pgo prog w p loose mean mg mb).K (.ref 37) (.ref 61) = some false := by kernel_rfl
theorem kit_NoLand_TooHigh : kitOne (pgo prog w p loose mean mg mb).K (.ref 37) (.ref 73) = some false := by kernel_rfl
theorem kit_NoLand_NothingDone : kitOne (pgo prog w p loose mean mg mb).K (.ref 37) (.ref 85) = some false := by kernel_rfl
theorem kit_NoLand_VE : kitOne (pgo prog w p loose mean mg mb).K (.ref 37) (.type "ValueError") = some true := by kernel_rfl
local macro_rules | `(tactic| walk_at "gl") => `(tactic| (simp only [gl_len, gl_isinstance, gl_all, gl_abs, gl_range, gl_list, gl_int, gl_bool, gl_str, gl_ValueError, gl_HillError, gl_NoLand, gl_NoHill, gl_SameHill, gl_TooHigh, gl_NothingDone, gl_is_height, gl_sole, gl_whole, gl_cell_at, gl_height_by, gl_longer, gl_land_by, gl_refused, gl_shown, gl_height_in, gl_read, gl_figures_by, gl_wrong_by, gl_height_of, gl_read_alike, gl_changed, gl_MOST_HILLS, gl_MOST_HEIGHT]; first | done | rfl))
local macro_rules | `(tactic| walk_at "nm") => `(tactic| first | (with_reducible assumption) | (with_reducible exact setN_same) | ((with_reducible refine Eq.trans (setN_ne ?_) ?_); rfl; walk_at "nm") | ((with_reducible first | refine Eq.trans bind_c ?_ | refine Eq.trans bind_n ?_ | refine Eq.trans all_c ?_ | refine Eq.trans all_n ?_); walk_at "nm") | (refine Eq.trans (compLoc_eq (by decide +kernel)) ?_; walk_at "nm") | (simp only [setN, setAll, bindV, ofString_inj, String.reduceEq, if_true, if_false]; first | done | with_reducible rfl | with_reducible assumption))
local macro_rules | `(tactic| walk_at "hp") => `(tactic| first | with_reducible assumption | exact app_new | (refine app_get ?_; walk_at "hp") | with_reducible rfl | (simp; done) | rfl)
local macro_rules | `(tactic| walk_at "cx") => `(tactic| with_reducible assumption)
local macro_rules | `(tactic| walk_at "vc") => `(tactic| first
  | (show E _ _ _ _ _ _; first | refine e_sliceS (by walk_at "nm") ?_ ?_ | refine e_name (by walk_at "nm") ?_ | refine e_int ?_ | refine e_bin ?_ | refine e_sub rfl ?_ | refine e_cmp rfl ?_ | refine e_callF (by walk_at "cx") (by walk_at "gl") (by kernel_rfl!) (by kernel_rfl) rfl ?_ | refine e_callB (by walk_at "cx") (by walk_at "gl") (by kernel_rfl) rfl ?_ | refine e_callT (by walk_at "cx") (by walk_at "gl") (by kernel_rfl) rfl ?_ | refine e_glob (by walk_at "cx") (by kernel_rfl) (by walk_at "gl") ?_ | refine e_boolop ?_ | refine e_un ?_ | refine e_cmp2 rfl ?_ | refine e_list ?_ | refine e_bool ?_ | refine e_str ?_ | refine e_none ?_ | refine e_append rfl rfl rfl ?_ | refine e_comp (by walk_at "cx") (by kernel_rfl) rfl ?_ | refine e_slice ?_ | refine e_join rfl rfl rfl ?_ | refine e_split rfl rfl rfl ?_ | refine e_index rfl rfl rfl ?_)
  | (show Sz _ _; refine sz rfl ?_)
  | (show Lst _ _ _; refine lst_ref (by walk_at "hp") ?_)
  | (show Es _ _ _ _ _ _; first | refine es_cons rfl ?_ | refine es_nil ?_)
  | (show Ss _ _ _ _ _ _; first | refine ss_asg ?_ | refine ss_expr ?_ | refine ss_ret ?_ | refine ss_nil ?_ | refine ss_raise ?_)
  | (show S _ _ _ _ _ _; first | refine s_comp (by walk_at "cx") (by kernel_rfl) (by kernel_rfl) rfl ?_ | refine s_asg (by walk_at "cx") rfl (by kernel_rfl) ?_ | refine s_ret ?_ | refine s_expr rfl ?_ | refine s_raise (by walk_at "cx") (by walk_at "gl") (by kernel_rfl) (by kernel_rfl) (by kernel_rfl) rfl ?_)
  | (show Bin _ _ _ _ _ _ _ _; first | refine bin_add ?_ | refine bin_sub ?_ | refine bin_mul ?_ ?_ | refine bin_mod ?_ ?_ | refine bin_div ?_ ?_ | refine bin_pow18 ?_ | refine bin_lists (by walk_at "hp") (by walk_at "hp") ?_ ?_ | refine bin_strs ?_ ?_)
  | (show Cmp _ _ _ _ _ _ _ _; first | refine cmp_seq ?_ | refine cmp_sne ?_ | refine cmp_lt ?_ | refine cmp_gt ?_ | refine cmp_le ?_ | refine cmp_eq ?_)
  | (show Tru _ _ _ _ _ _; refine tru_bool ?_)
  | (show B _ _ _ _ _ _; first | refine b_cmp rfl ?_ | refine b_not ?_ | refine b_boolop ?_ | refine b_cmp2 rfl ?_ | refine b_plain rfl ?_)
  | (show BL _ _ _ _ _ _ _; first | refine bl_and ?_ | refine bl_or ?_ | refine bl_and_nil ?_ | refine bl_or_nil ?_)
  | (show EL _ _ _ _ _ _ _; first | refine el_one ?_ | refine el_and ?_)
  | (show Un _ _ _ _ _ _ _; first | refine un_not ?_ | refine un_neg ?_)
  | (show Sub _ _ _ _ _ _ _; refine sb_scr (by walk_at "cx") ?_ (by with_reducible assumption) ?_)
  | (show CB _ _ _ _ _ _ _; first | refine isi_ii ?_ | refine isi_ib ?_ | refine isi_bi ?_ | refine isi_bb ?_ | refine isi_ti ?_ | refine isi_ni ?_ | refine isi_si ?_ | refine isi_rl (by walk_at "hp") ?_ | refine isi_ri (by walk_at "hp") ?_ | refine cb_len_scr (by walk_at "cx") ?_ | refine cb_len_int (by walk_at "hp") ?_ ?_ | refine cb_abs ?_ | refine cb_append (by walk_at "hp") ?_ ?_ | refine isi_ss ?_ | refine isi_is ?_ | refine isi_ns ?_ | refine isi_rs (by walk_at "hp") ?_ | refine cb_len_str ?_ ?_)
  | (show CT _ _ _ _ _ _ _; first | refine ct_int ?_ | refine ct_list_ref (by walk_at "hp") ?_ ?_)
  | (show If _ _ _; first | refine if_t ?_ | refine if_f ?_)
  | (show Hd _ _ _ _ _ _ _; refine hd_hit1 (by walk_at "cx") (by walk_at "gl") (by first | exact exm_NoLand_HillError | exact exm_NoLand_NoLand | exact exm_NoHill_HillError | exact exm_NoHill_NoHill | exact exm_SameHill_HillError | exact exm_SameHill_SameHill | exact exm_TooHigh_HillError | exact exm_TooHigh_TooHigh | exact exm_NothingDone_HillError | exact exm_NothingDone_NothingDone) (by kernel_rfl) (by kernel_rfl) (fun _ _ => ?_))
  | (show Opt _ _ _ _ _ _; first | refine opt_none ?_ | refine opt_some ?_)
  | (show Slc _ _ _ _ _ _; refine slc_ref (by walk_at "hp") ?_ ?_)
  | (show IsS _ _; refine is_s ?_)
  | (show Cmp _ _ _ _ _ _ _ _; first | refine cmp_sin ?_ | refine cmp_snin ?_)
  | (refine Exists.intro _ (And.intro rfl ?_))
  | (show Rng _ _; refine rng1 ?_ ?_))
local macro_rules | `(tactic| walk_at "side") => `(tactic| first | assumption | (refine Side.mk ?_; first | assumption | decide | omega | exact .inr (by decide) | exact .inl (by decide) | exact .inr (by omega) | exact .inl (by omega) | (simp only [List.length_map, List.length_append, List.length_cons, List.length_nil, sizeLine] <;> omega)))

theorem whole_ok {X : Value → List O → Prop} {Q : V → List O → Prop} {hp : List O} {a : Int} (h : Q (.bool true) hp) : CallOK (pgo prog w p loose mean mg mb) (lev + 1) true ns 123 [.int a] hp X Q := by
  refine fn_run (xs := ["_law_found"]) (fnAt_of rfl (by kernel_rfl) (fn1 fun _ => rfl) (by decide) (by decide) rfl rfl rfl) rfl (by decide +kernel) fun c hc => ?_
  repeat' walk_at "vc"
  exact h

def cell (ns : List Int) (k : Int) : Int := (ns[k.toNat]?).getD 0
theorem cell_at_ok {X : Value → List O → Prop} {Q : V → List O → Prop} {hp : List O} {k : Int} (hn : ns.length < 2 ^ 62) (h0 : Side (0 ≤ k)) (h : Q (.int (cell ns k)) hp) : CallOK (pgo prog w p loose mean mg mb) (lev + 1) true ns 130 [.scr, .int k] hp X Q := by
  refine fn_run (xs := ["_law_script", "_law_k"]) (fnAt_of rfl (by kernel_rfl) (fn2 fun _ _ => rfl) (by decide) (by decide) rfl rfl rfl) rfl (by decide +kernel) fun c hc => ?_
  repeat' walk_at "vc"
  refine ss_if ?_
  repeat' walk_at "vc"
  have h0' := h0.h
  refine if_decide (fun q => ?_) (fun q => ?_)
  · have e : ns[k.toNat]? = some (cell ns k) := by
      unfold cell
      rw [List.getElem?_eq_getElem (by omega)]
      rfl
    repeat' walk_at "vc"
    · exact h0
    · exact h
  · have e : cell ns k = 0 := by
      unfold cell
      rw [List.getElem?_eq_none (by omega)]
      rfl
    repeat' walk_at "vc"
    rw [e] at h
    exact h

theorem sole_ok {X : Value → List O → Prop} {Q : V → List O → Prop} {hp : List O} {i : Nat} {D : Addr} {b1 b2 b3 b4 b5 qt : Bool} (e : hp[i]? = some (.exn D)) (f : XcFacts (pgo prog w p loose mean mg mb).K D)
    (k1 : kitOne (pgo prog w p loose mean mg mb).K (.ref D) (.ref 37) = some b1) (k2 : kitOne (pgo prog w p loose mean mg mb).K (.ref D) (.ref 49) = some b2) (k3 : kitOne (pgo prog w p loose mean mg mb).K (.ref D) (.ref 61) = some b3)
    (k4 : kitOne (pgo prog w p loose mean mg mb).K (.ref D) (.ref 73) = some b4) (k5 : kitOne (pgo prog w p loose mean mg mb).K (.ref D) (.ref 85) = some b5) (k6 : kitOne (pgo prog w p loose mean mg mb).K (.ref D) (.ref 24) = some true) (k7 : kitOne (pgo prog w p loose mean mg mb).K (.ref D) (.type "ValueError") = some true)
    (h1 : decide ((0 : Int) + (if b1 = true then 1 else 0) + (if b2 = true then 1 else 0) + (if b3 = true then 1 else 0) + (if b4 = true then 1 else 0) + (if b5 = true then 1 else 0) = 1) = true) (h : Q (.bool true) hp) : CallOK (pgo prog w p loose mean mg mb) (lev + 1) qt ns 116 [.ref i] hp X Q := by
  refine fn_run (xs := ["_law_error"]) (fnAt_of rfl (by kernel_rfl) (fn1 fun _ => rfl) (by decide) (by decide) rfl rfl rfl) rfl (by decide +kernel) fun c hc => ?_
  repeat' (first | walk_at "vc" | refine isi_exn (by walk_at "cx") e f (by assumption) ?_)
  rw [h1]
  repeat' (first | walk_at "vc" | refine isi_exn (by walk_at "cx") e f (by assumption) ?_)
  exact h

def hgt : V → Bool
  | .int a => decide (-1000000000000000000 ≤ a) && decide (a ≤ 1000000000000000000)
  | _ => false
theorem is_height_ok {X : Value → List O → Prop} {Q : V → List O → Prop} {hp : List O} {v : V} {qt : Bool} (hv : Plain hp v) (h : Q (.bool (hgt v)) hp) : CallOK (pgo prog w p loose mean mg mb) (lev + 1) qt ns 94 [v] hp X Q := by
  refine fn_run (xs := ["thing"]) (fnAt_of rfl (by kernel_rfl) (fn1 fun _ => rfl) (by decide) (by decide) rfl rfl rfl) rfl (by decide +kernel) fun c hc => ?_
  refine ss_if ?_
  cases v with
  | int a =>
    repeat' walk_at "vc"
    refine if_decide (fun q => ?_) (fun q => ?_)
    · repeat' walk_at "vc"
      have e : hgt (.int a) = decide (a ≤ 1000000000000000000) := by
        show (decide (-1000000000000000000 ≤ a) && _) = _
        rw [decide_eq_true q, Bool.true_and]
      rw [e] at h
      exact h
    · have e : hgt (.int a) = decide (-1000000000000000000 ≤ a) := by
        show (decide (-1000000000000000000 ≤ a) && _) = _
        rw [decide_eq_false q, Bool.false_and]
      rw [e] at h
      exact h
  | ref j =>
    obtain ⟨ys, hj⟩ := hv
    repeat' walk_at "vc"
    exact h
  | scr => exact hv.elim
  | glob _ => exact hv.elim
  | _ =>
    repeat' walk_at "vc"
    exact h

theorem height_by_bd {X : Value → List O → Prop} {Q : V → List O → Prop} {hp : List O} {a k kd t : Int} (s : Side (0 ≤ k ∧ k ≤ 1000 ∧ -3 ≤ t ∧ t ≤ 3)) (h : ∀ x, -1000000000000000000 ≤ x → x ≤ 1000000000000000000 → Q (.int x) hp) : CallOK (pgo prog w p loose mean mg mb) (lev + 1) true ns 137 [.int a, .int k, .int kd, .int t] hp X Q := by
  refine fn_run (xs := ["_law_cell", "_law_k", "_law_kind", "_law_tilt"]) (fnAt_of rfl (by kernel_rfl) (fn4 fun _ _ _ _ => rfl) (by decide) (by decide) rfl rfl rfl) rfl (by decide +kernel) fun c hc => ?_
  have s' := s.h
  repeat' walk_at "vc"
  refine ss_if ?_
  repeat' walk_at "vc"
  refine if_decide (fun q => ?_) (fun q => ?_)
  · repeat' walk_at "vc"
    all_goals first | walk_at "side" | exact h _ (by omega) (by omega)
  repeat' walk_at "vc"
  refine ss_if ?_
  repeat' walk_at "vc"
  refine if_decide (fun q => ?_) (fun q => ?_)
  · repeat' walk_at "vc"
    all_goals first | walk_at "side" | exact ⟨.inr (by omega)⟩ | skip
    have : t = -3 ∨ t = -2 ∨ t = -1 ∨ t = 0 ∨ t = 1 ∨ t = 2 ∨ t = 3 := by omega
    rcases this with rfl | rfl | rfl | rfl | rfl | rfl | rfl <;> exact h _ (by omega) (by omega)
  repeat' walk_at "vc"
  refine ss_if ?_
  repeat' walk_at "vc"
  refine if_decide (fun q => ?_) (fun q => ?_)
  · repeat' walk_at "vc"
    all_goals first | walk_at "side" | exact h _ (by omega) (by omega)
  repeat' walk_at "vc"
  refine ss_if ?_
  repeat' walk_at "vc"
  refine if_decide (fun q => ?_) (fun q => ?_)
  · repeat' walk_at "vc"
    all_goals first | walk_at "side" | exact ⟨.inr (by omega)⟩ | exact ⟨.inl (by omega)⟩ | skip
    have k0 : 0 ≤ k * k := Int.mul_nonneg s'.1 s'.1
    have k1 : k * k ≤ 1000 * 1000 := Int.mul_le_mul s'.2.1 s'.2.1 s'.1 (by decide)
    have : t % 3 - 1 = -1 ∨ t % 3 - 1 = 0 ∨ t % 3 - 1 = 1 := by omega
    generalize k * k = kk at k0 k1 ⊢
    rcases this with e | e | e <;> rw [e] <;> exact h _ (by omega) (by omega)
  repeat' walk_at "vc"
  all_goals first | walk_at "side" | exact h _ (by omega) (by omega)
def Bnd (xs : List Int) : Prop := ∀ x ∈ xs, -1000000000000000000 ≤ x ∧ x ≤ 1000000000000000000
theorem land_by_bd {X : Value → List O → Prop} {Q : V → List O → Prop} {hp : List O} {m : Int} (hn : ns.length < 2 ^ 62) (hm : Side (0 < m ∧ m < 1000)) (h : ∀ xs : List Int, Bnd xs → 1 ≤ xs.length → (xs.length : Int) ≤ m → Q (.ref hp.length) (hp ++ [.list (xs.map .int)])) : CallOK (pgo prog w p loose mean mg mb) (lev + 2) true ns 149 [.scr, .int m] hp X Q := by
  refine fn_run (xs := ["_law_script", "_law_most"]) (fnAt_of rfl (by kernel_rfl) (fn2 fun _ _ => rfl) (by decide) (by decide) rfl rfl rfl) rfl (by decide +kernel) fun c hc => ?_
  have hm' := hm.h
  repeat' (first | walk_at "vc" | refine cell_at_ok hn ?_ ?_)
  all_goals try walk_at "side"
  refine i_range (by walk_at "cx") gl_range (by kernel_rfl) rfl ?_
  have m1 := Int.emod_lt_of_pos (cell ns 0) (b := m) (by omega)
  have m2 := Int.emod_nonneg (cell ns 0) (b := m) (by omega)
  repeat' walk_at "vc"
  · walk_at "side"
  refine comp_ints (by walk_at "cx") (by kernel_rfl) (fun _ x => -1000000000000000000 ≤ x ∧ x ≤ 1000000000000000000) ?_ (fun _ => trivial) ?_ ?_
  · rw [rngItems_length, sizeLine_eq]; omega
  · intro k hk vs hv
    refine ⟨_, tgt1, fun c' hc' => ?_⟩
    rw [rngItems_get]
    rw [rngItems_length] at hk
    have st : Side (0 ≤ 0 + (k : Int) ∧ 0 + (k : Int) ≤ 1000 ∧ -3 ≤ cell ns 0 / m / 5 % 7 - 3 ∧ cell ns 0 / m / 5 % 7 - 3 ≤ 3) := ⟨by omega⟩
    repeat' (first | walk_at "vc" | refine cell_at_ok hn ?_ ?_ | refine height_by_bd st (fun x x1 x2 => ?_))
    all_goals first | walk_at "side" | exact ⟨rfl, _, rfl, x1, x2⟩
  · intro ys hy hb
    rw [rngItems_length] at hy
    exact h ys (fun x hx => by obtain ⟨j, hj, rfl⟩ := List.getElem_of_mem hx; exact hb j hj) (by omega) (by omega)
theorem longer_bd {X : Value → List O → Prop} {Q : V → List O → Prop} {hp : List O} {i : Nat} {xs : List Int} {m r : Int} (hn : ns.length < 2 ^ 62) (hi : hp[i]? = some (.list (xs.map .int))) (hb : Bnd xs) (hx : Side (xs.length < 200 ∧ 0 < m ∧ m < 1000 ∧ 0 ≤ r ∧ r < 500))
    (h : ∀ ys : List Int, Bnd ys → (ys.length : Int) = xs.length + r → Q (.ref hp.length) (hp ++ [.list (ys.map .int)])) : CallOK (pgo prog w p loose mean mg mb) (lev + 2) true ns 144 [.scr, .ref i, .int m, .int r] hp X Q := by
  refine fn_run (xs := ["_law_script", "_law_land", "_law_most", "_law_many"]) (fnAt_of rfl (by kernel_rfl) (fn4 fun _ _ _ _ => rfl) (by decide) (by decide) rfl rfl rfl) rfl (by decide +kernel) fun c hc => ?_
  have hx' := hx.h
  have t1 : -3 ≤ cell ns 0 / m / 5 % 7 - 3 := by omega
  have t2 : cell ns 0 / m / 5 % 7 - 3 ≤ 3 := by omega
  repeat' (first | walk_at "vc" | refine cell_at_ok hn ?_ ?_)
  all_goals try walk_at "side"
  refine ss_cut (fun l hp' => ∃ ys : List Int, Bnd ys ∧ (ys.length : Int) = xs.length + r ∧ hp' = hp ++ [.list (ys.map .int)] ∧ l "_law_found" = some (.ref hp.length)) ?_ ?_
  · refine s_for1 (by walk_at "cx") (by kernel_rfl) rfl ?_
    refine i_range (by walk_at "cx") gl_range (by kernel_rfl) rfl ?_
    repeat' walk_at "vc"
    · walk_at "side"
    refine ⟨fun k l hp' => ∃ ys : List Int, Bnd ys ∧ ys.length = xs.length + k ∧ hp' = hp ++ [.list (ys.map .int)] ∧ l "_law_found" = some (.ref hp.length) ∧ l "_law_script" = some .scr ∧ l "_law_head" = some (.int (cell ns 0)) ∧ l "_law_most" = some (.int m) ∧ l "_law_tilt" = some (.int (cell ns 0 / m / 5 % 7 - 3)), ⟨xs, hb, by omega, rfl, by walk_at "nm", by walk_at "nm", by walk_at "nm", by walk_at "nm", by walk_at "nm"⟩, fun _ _ _ _ => trivial, ?_, ?_⟩
    · rintro k hk l hp' ⟨ys, yb, hy, rfl, g1, g2, g3, g4, g5⟩
      rw [rngItems_get]
      rw [rngItems_length] at hk
      have st : Side (0 ≤ (ys.length : Int) ∧ (ys.length : Int) ≤ 1000 ∧ -3 ≤ cell ns 0 / m / 5 % 7 - 3 ∧ cell ns 0 / m / 5 % 7 - 3 ≤ 3) := ⟨by omega⟩
      repeat' (first | walk_at "vc" | refine cell_at_ok hn ?_ ?_ | refine height_by_bd st (fun x x1 x2 => ?_))
      all_goals first | walk_at "side" | skip
      refine ⟨ys ++ [x], fun z hz => ?_, by simp only [List.length_append, List.length_cons, List.length_nil, hy]; omega, by rw [List.map_append]; simp, by walk_at "nm", by walk_at "nm", by walk_at "nm", by walk_at "nm", by walk_at "nm"⟩
      rcases List.mem_append.mp hz with q | q
      · exact yb z q
      · rw [List.mem_singleton.mp q]; exact ⟨x1, x2⟩
    · rintro l hp' ⟨ys, yb, hy, rfl, g1, g2, g3, g4, g5⟩
      rw [rngItems_length] at hy
      exact ⟨rfl, ys, yb, by omega, rfl, g1⟩
  rintro l hp' ⟨ys, yb, hy, rfl, g1⟩
  repeat' walk_at "vc"
  exact h ys yb hy

theorem height_in_ok {X : Value → List O → Prop} {Q : V → List O → Prop} {hp : List O} {w' : List Nat} (ha : asc w') (hl : w'.length ≤ 1000000) (h1 : ∀ h hp', hOf w' = some h → Keep hp hp' → Q (.int h) hp') (h2 : ∀ hp', hOf w' = none → Keep hp hp' → X (.ref 37) hp') : CallOK (pgo prog w p loose mean mg mb) (lev + 2) true ns 104 [.str (mkS w')] hp X Q := by
  refine fn_run (xs := ["word"]) (fnAt_of rfl (by kernel_rfl) (fn1 fun _ => rfl) (by decide) (by decide) rfl rfl rfl) rfl (by decide +kernel) fun c hc => ?_
  have sw : Side ((mkS w').length ≤ sizeLine) := ⟨by rw [mk_len, sizeLine_eq]; omega⟩
  have fl := figs_len w'
  repeat' walk_at "vc"
  refine ss_cut (fun l hp' => hp = hp' ∧ l "figures" = some (.str (mkS (figs w'))) ∧ l "word" = some (.str (mkS w'))) ?_ ?_
  · refine s_if ?_
    repeat' walk_at "vc"
    · exact sw
    rw [take_dash]
    refine if_decide (fun q => ?_) (fun q => ?_)
    · repeat' walk_at "vc"
      · exact sw
      refine ⟨rfl, rfl, ?_, by walk_at "nm"⟩
      rw [slice1b, show w'.drop 1 = figs w' from by unfold figs; rw [if_pos q]]
      walk_at "nm"
    · repeat' walk_at "vc"
      refine ⟨rfl, rfl, ?_, by walk_at "nm"⟩
      rw [show figs w' = w' from by unfold figs; rw [if_neg q]]
      walk_at "nm"
  rintro l _ ⟨rfl, g1, g2⟩
  have sf : Side ((mkS (figs w')).length < 2 ^ 62) := ⟨by rw [mk_len]; omega⟩
  have fa := figs_asc ha
  refine ss_if ?_
  repeat' walk_at "vc"
  · exact sf
  rw [mk_len]
  refine if_decide (fun q => ?_) (fun q1 => ?_)
  · repeat' walk_at "vc"
    exact h2 _ (hOf_none fun z => by omega) .refl
  repeat' walk_at "vc"
  · exact sf
  rw [mk_len]
  refine if_decide (fun q => ?_) (fun q2 => ?_)
  · repeat' walk_at "vc"
    exact h2 _ (hOf_none fun z => by omega) .refl
  repeat' walk_at "vc"
  refine i_val ?_
  repeat' walk_at "vc"
  refine srv_mk (by walk_at "cx") fa ?_
  refine comp_gen (by walk_at "cx") (by kernel_rfl) (fun k v => v = .bool (isD ((figs w').getD k 0))) (by rw [List.length_map, sizeLine_eq]; omega) (fun _ => trivial) ?_ ?_
  · intro k hk vs hv hr
    rw [List.length_map] at hk
    refine ⟨_, tgt1, fun c' hc' => ?_⟩
    rw [List.getElem_map]
    show E _ _ _ (setAll _ [(_, .str ⟨#[(figs w')[k]]⟩)]) _ _
    repeat' walk_at "vc"
    refine ⟨rfl, ?_⟩
    rw [sign_in]
    simp [hk]
  intro vs hv hr
  rw [List.length_map] at hv
  rw [bools_map hv hr]
  repeat' walk_at "vc"
  refine cb_all (by walk_at "cx") app_new ?_
  rw [all_isD]
  have k1 : Keep hp (hp ++ [O.list ((List.map isD (figs w')).map V.bool)]) := Keep.refl.app
  generalize hp ++ [O.list ((List.map isD (figs w')).map V.bool)] = hp₁ at k1 ⊢
  clear hr hv vs
  repeat' walk_at "vc"
  refine if_b (fun q => ?_) (fun q => ?_)
  · repeat' walk_at "vc"
    have q' : (figs w').all isD = false := by simpa using q
    exact h2 _ (hOf_none fun z => by rw [z.2.2.1] at q'; cases q') k1
  have q3 : (figs w').all isD = true := by simpa using q
  clear q
  have ad := allD_iff.mp q3
  have hne : figs w' ≠ [] := fun e => by rw [e] at q1; simp at q1
  have vs := val_small ad (by omega)
  repeat' walk_at "vc"
  refine ct_intS (PySem.intText_digits (x := mkS (figs w')) ad hne (by rw [mk_len]; omega)) ⟨by rw [mk_len]; omega⟩ ?_
  show Ss _ _ _ _ _ _
  rw [show NumText.digitsVal (mkS (figs w')).cps.toList = NumText.digitsVal (figs w') from rfl]
  generalize hn : NumText.digitsVal (figs w') = n at vs ⊢
  refine ss_if ?_
  repeat' (first | walk_at "vc" | refine ct_str ⟨log_small (by omega)⟩ ?_)
  rw [wd_mk, mk_bne, wd_nat]
  refine if_ndecide (fun q => ?_) (fun q4 => ?_)
  · repeat' walk_at "vc"
    exact h2 _ (hOf_none fun z => q (by rw [← hn]; exact z.2.2.2.1)) k1
  repeat' walk_at "vc"
  rw [dash0_mk, mk_beq]
  refine if_decide (fun q => ?_) (fun q5 => ?_)
  · repeat' walk_at "vc"
    exact h2 _ (hOf_none fun z => z.2.2.2.2.1 q) k1
  repeat' walk_at "vc"
  refine ss_cut (fun l hp' => hp₁ = hp' ∧ l "height" = some (.int (sgn w' n))) ?_ ?_
  · refine s_if ?_
    repeat' walk_at "vc"
    · exact sw
    rw [take_dash]
    refine if_decide (fun q => ?_) (fun q => ?_)
    · repeat' walk_at "vc"
      refine ⟨rfl, rfl, ?_⟩
      rw [show sgn w' n = -(n : Int) from by unfold sgn; rw [if_pos q]]
      walk_at "nm"
    · repeat' walk_at "vc"
      refine ⟨rfl, rfl, ?_⟩
      rw [show sgn w' n = (n : Int) from by unfold sgn; rw [if_neg q]]
      walk_at "nm"
  clear g1 g2 l
  rintro l _ ⟨rfl, g1⟩
  refine ss_if ?_
  repeat' walk_at "vc"
  refine is_height_ok trivial ?_
  repeat' walk_at "vc"
  rw [show hgt (.int (sgn w' n)) = bnd (sgn w' n) from rfl]
  refine if_b (fun q => ?_) (fun q => ?_)
  · repeat' walk_at "vc"
    have q' : bnd (sgn w' n) = false := by simpa using q
    exact h2 _ (hOf_none fun z => by rw [hn, q'] at z; exact absurd z.2.2.2.2.2 (by decide)) k1
  · have q' : bnd (sgn w' n) = true := by simpa using q
    repeat' walk_at "vc"
    exact h1 _ _ (by rw [← hn]; exact hOf_some ⟨by omega, by omega, q3, by rw [hn]; exact q4, q5, by rw [hn]; exact q'⟩) k1

def RdNo (t : List Nat) : Prop := 200 < (wds t).length ∨ ∃ x ∈ wds t, hOf x = none
theorem mem_jn : ∀ {ws : List (List Nat)} {x : List Nat} {a : Nat}, x ∈ ws → a ∈ x → a ∈ jn ws
  | [v], x, a, h, ha => by rw [List.mem_singleton.mp h] at ha; exact ha
  | v :: u :: r, x, a, h, ha => by
    rw [jn, List.mem_append, List.mem_cons]
    rcases List.mem_cons.mp h with e | h
    · rw [e] at ha; exact .inl ha
    · exact .inr (.inr (mem_jn h ha))
theorem wds_asc {t : List Nat} (h : asc t) : ∀ x ∈ wds t, asc x := fun x hx a ha => h a (by
  have := mem_jn hx ha
  rw [(wds_ok t).2.2.1] at this
  exact this)
theorem len_jn : ∀ {ws : List (List Nat)} {x : List Nat}, x ∈ ws → x.length ≤ (jn ws).length
  | [v], x, h => by rw [List.mem_singleton.mp h]; exact Nat.le_refl _
  | v :: u :: r, x, h => by
    rw [jn, List.length_append, List.length_cons]
    rcases List.mem_cons.mp h with e | h
    · rw [e]; omega
    · have := len_jn h; omega
theorem wds_len {t : List Nat} : ∀ x ∈ wds t, x.length ≤ t.length := fun x hx => by
  have := len_jn hx
  rw [(wds_ok t).2.2.1] at this
  exact this
theorem read_ok {X : Value → List O → Prop} {Q : V → List O → Prop} {hp : List O} {t : List Nat} (ha : asc t) (hl : t.length ≤ 100000) (h1 : ∀ (xs : List Int) (r : Nat) hp', (wds t).length ≤ 200 → (wds t).map hOf = xs.map some → Keep hp hp' → hp'[r]? = some (.list (xs.map .int)) → Q (.ref r) hp') (h2 : ∀ hp', RdNo t → Keep hp hp' → X (.ref 37) hp') : CallOK (pgo prog w p loose mean mg mb) (lev + 3) true ns 109 [.str (mkS t)] hp X Q := by
  refine fn_run (xs := ["line"]) (fnAt_of rfl (by kernel_rfl) (fn1 fun _ => rfl) (by decide) (by decide) rfl rfl rfl) rfl (by decide +kernel) fun c hc => ?_
  obtain ⟨w1, w2, w3, w4, w5⟩ := wds_ok t
  have wa := wds_asc ha
  have wl := wds_len (t := t)
  refine ss_if ?_
  repeat' walk_at "vc"
  rw [sp_mk]
  refine cb_split rfl ⟨by rw [mk_len]; omega⟩ ?_
  rw [w4]
  have k1 : Keep hp (hp ++ [O.list (((wds t).map mkS).map V.str)]) := Keep.refl.app
  have e1 := app_new (hp := hp) (o := O.list (((wds t).map mkS).map V.str))
  generalize hp ++ [O.list (((wds t).map mkS).map V.str)] = hp₁ at k1 e1 ⊢
  generalize hp.length = W at e1 ⊢
  generalize hws : wds t = ws at *
  have sl : Side (((ws.map mkS).map V.str).length < 2 ^ 63) := ⟨by rw [List.length_map, List.length_map]; omega⟩
  show Ss _ _ _ _ _ _
  refine ss_if ?_
  repeat' (first | walk_at "vc" | refine cb_len_ref e1 sl ?_)
  rw [List.length_map, List.length_map]
  refine if_decide (fun q => ?_) (fun q => ?_)
  · repeat' walk_at "vc"
    exact h2 _ (.inl (by rw [hws]; omega)) k1
  refine ss_nil ?_
  show Ss _ _ _ _ _ _
  refine ss_cons (s_retCompX (by walk_at "cx") (by kernel_rfl) rfl ?_)
  refine i_val ?_
  repeat' walk_at "vc"
  refine srv_ref (by walk_at "cx") e1 ?_
  refine compX_inv (by walk_at "cx") (by kernel_rfl) (fun k hp' => Keep hp₁ hp' ∧ ∃ xs : List Int, hp'[hp₁.length]? = some (.list (xs.map .int)) ∧ xs.length = k ∧ ∀ (j : Nat) (hj : j < xs.length), hOf (ws.getD j []) = some xs[j]) ⟨Keep.refl.app, [], app_new, rfl, fun j hj => by simp at hj⟩ (by rw [List.length_map, List.length_map, sizeLine_eq]; omega) (fun k hp' h => h.1 _ _ e1) ?_ ?_
  · rintro k hk hp' ⟨k2, xs, f1, f2, f3⟩
    rw [List.length_map, List.length_map] at hk
    refine ⟨_, tgt1, fun c' hc' => ?_⟩
    rw [List.getElem_map, List.getElem_map]
    repeat' walk_at "vc"
    have hm := List.getElem_mem hk
    have hg : ws.getD k [] = ws[k] := by simp [hk]
    refine height_in_ok (wa _ hm) (by have := wl _ hm; omega) (fun h hp₂ e k3 => ?_) (fun hp₂ e k3 => ?_)
    · have f4 := k3 _ _ f1
      refine ⟨xs.map .int, f4, by rw [List.length_map]; omega, (k2.trans k3).set (Nat.le_refl _), xs ++ [h], by rw [set_at f4, List.map_append]; rfl, by simp [f2], fun j hj => ?_⟩
      rcases Nat.lt_or_ge j xs.length with z | z
      · rw [List.getElem_append_left z]; exact f3 j z
      · have : j = xs.length := by simp at hj; omega
        subst this
        have e5 : hOf (ws.getD xs.length []) = some h := by rw [f2, hg, e]
        rw [e5]
        simp
    · exact h2 _ (.inr ⟨ws[k], by rw [hws]; exact hm, e⟩) ((k1.trans k2).trans k3)
  · rintro hp' ⟨k2, xs, f1, f2, f3⟩
    rw [List.length_map, List.length_map] at f2
    refine h1 xs _ _ (by omega) ?_ (k1.trans k2) f1
    refine List.ext_getElem (by simp [f2]) fun j j1 j2 => ?_
    have j3 : j < ws.length := by simpa using j1
    have := f3 j (by omega)
    rw [List.getElem_map, List.getElem_map, ← this]
    simp [j3]
theorem read_bad {X : Value → List O → Prop} {Q : V → List O → Prop} {hp : List O} {v : V} (hv : (∃ a, v = .int a) ∨ v = .none ∨ ∃ j vs, v = .ref j ∧ hp[j]? = some (.list vs)) (h2 : X (.ref 37) hp) : CallOK (pgo prog w p loose mean mg mb) (lev + 3) true ns 109 [v] hp X Q := by
  refine fn_run (xs := ["line"]) (fnAt_of rfl (by kernel_rfl) (fn1 fun _ => rfl) (by decide) (by decide) rfl rfl rfl) rfl (by decide +kernel) fun c hc => ?_
  refine ss_if ?_
  rcases hv with ⟨a, rfl⟩ | rfl | ⟨j, vs, rfl, e⟩
  · repeat' walk_at "vc"
    exact h2
  · repeat' walk_at "vc"
    exact h2
  · repeat' walk_at "vc"
    exact h2
theorem refused_ok {X : Value → List O → Prop} {Q : V → List O → Prop} {hp : List O} {v : V} (hv : ∀ (X : Value → List O → Prop) (Q : V → List O → Prop), (∀ hp', Keep hp hp' → X (.ref 37) hp') → CallOK (pgo prog w p loose mean mg mb) (lev + 3) true ns 109 [v] hp X Q) (h : ∀ hp', Keep hp hp' → Q (.bool true) hp') : CallOK (pgo prog w p loose mean mg mb) (lev + 4) true ns 170 [v] hp X Q := by
  refine fn_run (xs := ["_law_line"]) (fnAt_of rfl (by kernel_rfl) (fn1 fun _ => rfl) (by decide) (by decide) rfl rfl rfl) rfl (by decide +kernel) fun c hc => ?_
  refine ss_cons (s_try1 (.ref 37) (fun l hp' => Keep hp hp') (fun X' hX' => ?_) ?_)
  · repeat' walk_at "vc"
    exact hv _ _ fun hp' k => hX' _ _ k
  · rintro l hp' k
    have hex : (hp' ++ [O.exn 37])[hp'.length]? = some (.exn 37) := app_new
    repeat' walk_at "vc"
    refine sole_ok hex xcf_NoLand kit_NoLand_NoLand kit_NoLand_NoHill kit_NoLand_SameHill kit_NoLand_TooHigh kit_NoLand_NothingDone kit_NoLand_HillError kit_NoLand_VE (by decide) ?_
    repeat' walk_at "vc"
    exact h _ k.app
theorem refused_line {X : Value → List O → Prop} {Q : V → List O → Prop} {hp : List O} {t : List Nat} (ha : asc t) (hl : t.length ≤ 100000) (hr : RdNo t) (h : ∀ hp', Keep hp hp' → Q (.bool true) hp') : CallOK (pgo prog w p loose mean mg mb) (lev + 4) true ns 170 [.str (mkS t)] hp X Q := by
  refine refused_ok (fun X Q hx => ?_) h
  refine read_ok ha hl (fun xs r hp' z1 z2 _ _ => ?_) (fun hp' _ k => hx hp' k)
  rcases hr with q | ⟨x, hx', e⟩
  · omega
  · have : none ∈ (wds t).map hOf := by rw [← e]; exact List.mem_map_of_mem hx'
    rw [z2] at this
    simp at this

theorem join_fit {ws : List (List Nat)} {B : Nat} (hB : ∀ x ∈ ws, x.length ≤ B) (hl : ws.length * B + ws.length ≤ 16777216) : JoinOk (mkS [32]) (ws.map mkS) = true := by
  unfold JoinOk
  rw [StrLaws.joinFits (B := B) (fun y hy => by obtain ⟨x, hx, rfl⟩ := List.mem_map.mp hy; rw [mk_len]; exact hB x hx) (by rw [List.length_map, mk_len]; simpa using hl)]
  rfl
theorem wd_len {x : Int} (h1 : -1000000000000000000 ≤ x) (h2 : x ≤ 1000000000000000000) : (wd x).length ≤ 20 := by
  have := dg_len (m := x.natAbs) (k := 19) (by omega) (by omega)
  unfold wd
  split <;> simp <;> omega
theorem dg_asc (m : Nat) : asc (dg m) := fun c hc => by have := dg_digits m c hc; omega
theorem wd_asc (x : Int) : asc (wd x) := by
  unfold wd
  split
  · intro c hc
    rcases List.mem_cons.mp hc with e | e
    · omega
    · exact dg_asc _ c e
  · exact dg_asc _
theorem strs_of {fs : List (List Nat)} {vs : List V} (hl : vs.length = fs.length) (h : ∀ (j : Nat) (hj : j < vs.length), vs[j] = .str (mkS (fs.getD j []))) : vs = (fs.map mkS).map V.str := by
  refine List.ext_getElem (by simp [hl]) fun j h1 h2 => ?_
  rw [h j h1]
  have : j < fs.length := by omega
  simp [this]
theorem shown_ok {X : Value → List O → Prop} {Q : V → List O → Prop} {hp : List O} {i : Nat} {xs : List Int} (hi : hp[i]? = some (.list (xs.map .int))) (hb : Bnd xs) (s : Side (xs.length ≤ 200)) (h : ∀ hp', Keep hp hp' → Q (.str (mkS (jn (xs.map wd)))) hp') : CallOK (pgo prog w p loose mean mg mb) (lev + 1) true ns 99 [.ref i] hp X Q := by
  refine fn_run (xs := ["land"]) (fnAt_of rfl (by kernel_rfl) (fn1 fun _ => rfl) (by decide) (by decide) rfl rfl rfl) rfl (by decide +kernel) fun c hc => ?_
  have s' := s.h
  repeat' walk_at "vc"
  refine i_val ?_
  repeat' walk_at "vc"
  refine srv_ref (by walk_at "cx") hi ?_
  refine comp_gen (by walk_at "cx") (by kernel_rfl) (fun k v => v = .str (mkS ((xs.map wd).getD k []))) (by rw [List.length_map, sizeLine_eq]; omega) (fun _ => app_get hi) ?_ ?_
  · intro k hk vs hv hr
    rw [List.length_map] at hk
    refine ⟨_, tgt1, fun c' hc' => ?_⟩
    rw [List.getElem_map]
    have hx := hb _ (List.getElem_mem hk)
    repeat' (first | walk_at "vc" | refine ct_str ⟨log_small (by omega)⟩ ?_)
    refine ⟨rfl, ?_⟩
    rw [wd_mk]
    simp [hk]
  intro vs hv hr
  rw [strs_of (by rw [hv]; simp) hr]
  repeat' walk_at "vc"
  rw [sp_mk]
  refine cb_join app_new (join_fit (B := 20) (fun x hx => ?_) (by rw [List.length_map]; omega)) ?_
  · obtain ⟨z, hz, rfl⟩ := List.mem_map.mp hx
    exact wd_len (hb z hz).1 (hb z hz).2
  rw [join_mk]
  exact h _ Keep.refl.app
theorem digs_at {k : Nat} (h : k < 10) : digs.getD k 0 = 48 + k := by
  have : k = 0 ∨ k = 1 ∨ k = 2 ∨ k = 3 ∨ k = 4 ∨ k = 5 ∨ k = 6 ∨ k = 7 ∨ k = 8 ∨ k = 9 := by omega
  rcases this with rfl | rfl | rfl | rfl | rfl | rfl | rfl | rfl | rfl | rfl <;> rfl
theorem dig_item (r : Nat) : fitsSsize ((r : Int) % 10) = true ∧ (Txt.charAt (Str.ofString "0123456789") ((r : Int) % 10)).isSome = true ∧ Txt.item (Str.ofString "0123456789") ((r : Int) % 10) = mkS [48 + r % 10] := by
  rw [digs_mk]
  have e := item_at (l := digs) (i := (r : Int) % 10) (by omega) (by show _ < ((10 : Nat) : Int); omega)
  refine ⟨fits_of (by omega) (by omega), e.1, ?_⟩
  rw [e.2, show ((r : Int) % 10).toNat = r % 10 by omega, digs_at (by omega)]
def FgJ (n : Nat) (fd : List Nat) (r : Nat) : Prop := (fd = [] ∧ r = n) ∨ (fd ≠ [] ∧ ((r = 0 ∧ fd = dg n) ∨ (0 < r ∧ dg r ++ fd = dg n)))
theorem FgJ.len {n : Nat} {fd : List Nat} {r : Nat} (h : FgJ n fd r) : fd.length ≤ (dg n).length := by
  rcases h with ⟨rfl, _⟩ | ⟨_, ⟨_, rfl⟩ | ⟨_, e⟩⟩
  · simp
  · exact Nat.le_refl _
  · rw [← e, List.length_append]; omega
theorem FgJ.step {n : Nat} {fd : List Nat} {r : Nat} (h : FgJ n fd r) (hr : 0 < r ∨ fd = []) : FgJ n ((48 + r % 10) :: fd) (r / 10) := by
  refine .inr ⟨by simp, ?_⟩
  have key : ∀ tl : List Nat, dg r ++ tl = dg n → (r / 10 = 0 ∧ (48 + r % 10) :: tl = dg n) ∨ (0 < r / 10 ∧ dg (r / 10) ++ (48 + r % 10) :: tl = dg n) := by
    intro tl e
    by_cases q : r < 10
    · rw [dg_small q] at e
      exact .inl ⟨by omega, by rw [Nat.mod_eq_of_lt q]; exact e⟩
    · rw [dg_big (by omega), List.append_assoc] at e
      exact .inr ⟨by omega, e⟩
  rcases h with ⟨rfl, rfl⟩ | ⟨hne, ⟨rfl, rfl⟩ | ⟨_, e⟩⟩
  · exact key [] (by simp)
  · rcases hr with q | q
    · omega
    · exact absurd q hne
  · exact key fd e
theorem figures_by_ok {X : Value → List O → Prop} {Q : V → List O → Prop} {hp : List O} {x : Int} (s : Side (-1000000000000000000 ≤ x ∧ x ≤ 1000000000000000000)) (h : Q (.str (mkS (wd x))) hp) : CallOK (pgo prog w p loose mean mg mb) (lev + 1) true ns 156 [.int x] hp X Q := by
  refine fn_run (xs := ["_law_height"]) (fnAt_of rfl (by kernel_rfl) (fn1 fun _ => rfl) (by decide) (by decide) rfl rfl rfl) rfl (by decide +kernel) fun c hc => ?_
  have s' := s.h
  have hl := dg_len (m := x.natAbs) (k := 19) (by omega) (by omega)
  repeat' walk_at "vc"
  rw [show (if x < 0 then -x else x) = ((x.natAbs : Nat) : Int) by omega, empty_mk]
  generalize hn : x.natAbs = n at hl ⊢
  refine ss_cut (fun l hp' => hp = hp' ∧ l "_law_found" = some (.str (mkS (dg n))) ∧ l "_law_height" = some (.int x)) ?_ ?_
  · refine s_while (fun m l hp' => hp = hp' ∧ ∃ (fd : List Nat) (r : Nat), l "_law_found" = some (.str (mkS fd)) ∧ l "_law_rest" = some (.int r) ∧ l "_law_height" = some (.int x) ∧ FgJ n fd r ∧ m = 2 * r + (if fd = [] then 1 else 0)) (2 * n + 1) ⟨rfl, [], n, by walk_at "nm", by walk_at "nm", by walk_at "nm", .inl ⟨rfl, rfl⟩, rfl⟩ ?_
    rintro m l _ ⟨rfl, fd, r, g1, g2, g3, g4, rfl⟩
    have fl := g4.len
    have di := dig_item r
    have sd : Side ((mkS [48 + r % 10]).length + (mkS fd).length ≤ sizeLine) := ⟨by rw [mk_len, mk_len, sizeLine_eq, List.length_singleton]; omega⟩
    have body : (0 < r ∨ fd = []) → ∃ m', m' < 2 * r + (if fd = [] then 1 else 0) ∧ (hp = hp ∧ ∃ (fd' : List Nat) (r' : Nat), setN (setN l "_law_found" (.str (mkS ((48 + r % 10) :: fd)))) "_law_rest" (.int ((r / 10 : Nat) : Int)) "_law_found" = some (.str (mkS fd')) ∧ setN (setN l "_law_found" (.str (mkS ((48 + r % 10) :: fd)))) "_law_rest" (.int ((r / 10 : Nat) : Int)) "_law_rest" = some (.int r') ∧ setN (setN l "_law_found" (.str (mkS ((48 + r % 10) :: fd)))) "_law_rest" (.int ((r / 10 : Nat) : Int)) "_law_height" = some (.int x) ∧ FgJ n fd' r' ∧ m' = 2 * r' + (if fd' = [] then 1 else 0)) := fun hr => by
      refine ⟨2 * (r / 10) + 0, ?_, rfl, (48 + r % 10) :: fd, r / 10, by walk_at "nm", by walk_at "nm", by walk_at "nm", g4.step hr, by simp⟩
      rcases hr with q | q
      · split <;> omega
      · rw [if_pos q]; omega
    by_cases q : 0 < r
    · repeat' walk_at "vc"
      refine if_decide (fun _ => ?_) (fun z => absurd (by omega) z)
      repeat' (first | walk_at "vc" | refine sb_str di.1 di.2.1 ?_)
      all_goals first | walk_at "side" | (rw [di.2.2]; exact sd) | skip
      rw [di.2.2, mk_app, show ((r : Int) / 10) = ((r / 10 : Nat) : Int) by omega]
      exact body (.inl q)
    · have r0 : r = 0 := by omega
      subst r0
      repeat' walk_at "vc"
      try rw [empty_mk]
      rw [mk_beq]
      refine if_decide (fun z => ?_) (fun z => ?_)
      · repeat' (first | walk_at "vc" | refine sb_str di.1 di.2.1 ?_)
        all_goals first | walk_at "side" | (rw [di.2.2]; exact sd) | skip
        rw [di.2.2, mk_app, show (((0 : Nat) : Int) / 10) = ((0 / 10 : Nat) : Int) by omega]
        exact body (.inr z)
      · repeat' walk_at "vc"
        rcases g4 with ⟨e, _⟩ | ⟨_, ⟨_, e⟩ | ⟨e, _⟩⟩
        · exact absurd e z
        · exact ⟨rfl, rfl, by rw [← e]; exact g1, g3⟩
        · omega
  rintro l _ ⟨rfl, g1, g2⟩
  refine ss_if ?_
  repeat' walk_at "vc"
  refine if_decide (fun q => ?_) (fun q => ?_)
  · repeat' walk_at "vc"
    · exact ⟨by rw [dash_mk, mk_len, mk_len, sizeLine_eq, List.length_singleton]; omega⟩
    rw [dash_mk, mk_app, show [45] ++ dg n = wd x from by unfold wd; rw [if_pos q, hn]; rfl]
    exact h
  · repeat' walk_at "vc"
    rw [show dg n = wd x from by unfold wd; rw [if_neg q, hn]] at g1
    rw [show dg n = wd x from by unfold wd; rw [if_neg q, hn]]
    exact h

theorem ss_cutR {c : Cx} {X : XP} {l : Lo} {hp : List O} {st : Stmt} {rest : List Stmt} {K : KF} (P : Lo → List O → Prop) (h1 : S c X st l hp (fun fl l hp => match fl with | .next => P l hp | f => K f l hp)) (h2 : ∀ l hp, P l hp → Ss c X rest l hp K) : Ss c X (st :: rest) l hp K :=
  ss_cons (s_mono h1 fun fl l hp x => by cases fl <;> first | exact h2 _ _ x | exact x)
theorem height_of_ok {X : Value → List O → Prop} {Q : V → List O → Prop} {hp : List O} {w' : List Nat} (ha : asc w') (hl : w'.length ≤ 1000000) (h : Q (oV (hOf w')) hp) : CallOK (pgo prog w p loose mean mg mb) (lev + 1) true ns 177 [.str (mkS w')] hp X Q := by
  refine fn_run (xs := ["_law_word"]) (fnAt_of rfl (by kernel_rfl) (fn1 fun _ => rfl) (by decide) (by decide) rfl rfl rfl) rfl (by decide +kernel) fun c hc => ?_
  have sw : Side ((mkS w').length ≤ sizeLine) := ⟨by rw [mk_len, sizeLine_eq]; omega⟩
  have fl := figs_len w'
  have no : hOf w' = none → Q .none hp := fun e => by rw [e] at h; exact h
  repeat' walk_at "vc"
  refine ss_cut (fun l hp' => hp = hp' ∧ l "_law_figures" = some (.str (mkS (figs w'))) ∧ l "_law_word" = some (.str (mkS w'))) ?_ ?_
  · refine s_if ?_
    repeat' walk_at "vc"
    · exact sw
    rw [take_dash]
    refine if_decide (fun q => ?_) (fun q => ?_)
    · repeat' walk_at "vc"
      · exact sw
      refine ⟨rfl, rfl, ?_, by walk_at "nm"⟩
      rw [slice1b, show w'.drop 1 = figs w' from by unfold figs; rw [if_pos q]]
      walk_at "nm"
    · repeat' walk_at "vc"
      refine ⟨rfl, rfl, ?_, by walk_at "nm"⟩
      rw [show figs w' = w' from by unfold figs; rw [if_neg q]]
      walk_at "nm"
  rintro l _ ⟨rfl, g1, g2⟩
  have sf : Side ((mkS (figs w')).length < 2 ^ 62) := ⟨by rw [mk_len]; omega⟩
  have fa := figs_asc ha
  refine ss_cutR (fun l hp' => hp = hp' ∧ (figs w' ≠ [] ∧ (figs w').length ≤ 19 ∧ ¬ ((figs w').head? = some 48 ∧ w' ≠ [48])) ∧ l "_law_figures" = some (.str (mkS (figs w'))) ∧ l "_law_word" = some (.str (mkS w'))) ?_ ?_
  · refine s_if ?_
    repeat' walk_at "vc"
    rw [empty_mk, mk_beq]
    refine if_decide (fun q => ?_) (fun q1 => ?_)
    · repeat' walk_at "vc"
      exact no (hOf_none' fun z => z.1 q)
    repeat' walk_at "vc"
    · exact sf
    rw [mk_len]
    refine if_decide (fun q => ?_) (fun q2 => ?_)
    · repeat' walk_at "vc"
      exact no (hOf_none' fun z => by omega)
    obtain ⟨c0, f0, hf⟩ : ∃ c0 f0, figs w' = c0 :: f0 := by
      cases e : figs w' with
      | nil => exact absurd e q1
      | cons a b => exact ⟨a, b, rfl⟩
    have it := item_at (l := figs w') (i := 0) (by decide) (by rw [hf]; simp)
    have i0 : (figs w').getD (0 : Int).toNat 0 = c0 := by rw [hf]; rfl
    have h0 : (figs w').head? = some c0 := by rw [hf]; rfl
    repeat' (first | walk_at "vc" | refine sb_str (fits_of (by decide) (by decide)) it.1 ?_)
    rw [it.2, i0, nought_mk, mk_beq]
    refine if_decide (fun q => ?_) (fun q => ?_)
    · repeat' walk_at "vc"
      try rw [nought_mk]
      rw [mk_bne]
      refine if_ndecide (fun q3 => ?_) (fun q3 => ?_)
      · repeat' walk_at "vc"
        exact no (hOf_none' fun z => z.2.2.1 ⟨by rw [h0]; injection q with q _; rw [q], q3⟩)
      · repeat' walk_at "vc"
        exact ⟨rfl, ⟨q1, by omega, fun z => z.2 q3⟩, by walk_at "nm", by walk_at "nm"⟩
    · repeat' walk_at "vc"
      exact ⟨rfl, ⟨q1, by omega, fun z => q (by rw [h0] at z; injection z.1 with z; rw [z])⟩, by walk_at "nm", by walk_at "nm"⟩
  clear g1 g2 l
  rintro l _ ⟨rfl, ⟨q1, q2, q3⟩, g1, g2⟩
  repeat' walk_at "vc"
  refine ss_cutR (fun l hp' => hp = hp' ∧ (figs w').all isD = true ∧ l "_law_found" = some (.int ((NumText.digitsVal (figs w') : Nat) : Int)) ∧ l "_law_word" = some (.str (mkS w'))) ?_ ?_
  · refine s_for1 (by walk_at "cx") (by kernel_rfl) rfl ?_
    refine i_val ?_
    repeat' walk_at "vc"
    refine srv_mk (by walk_at "cx") fa ?_
    refine ⟨fun k l hp' => hp = hp' ∧ (∀ (j : Nat) (hj : j < (figs w').length), j < k → isD (figs w')[j] = true) ∧ l "_law_found" = some (.int ((NumText.digitsVal ((figs w').take k) : Nat) : Int)) ∧ l "_law_word" = some (.str (mkS w')), ⟨rfl, fun j hj z => absurd z (Nat.not_lt_zero _), by rw [show ((NumText.digitsVal ((figs w').take 0) : Nat) : Int) = 0 from rfl]; walk_at "nm", by walk_at "nm"⟩, fun _ _ _ _ => trivial, ?_, ?_⟩
    · clear g1 g2 l
      rintro k hk l _ ⟨rfl, g0, g1, g2⟩
      rw [List.length_map] at hk
      rw [List.getElem_map]
      show Ss _ _ _ (setN _ _ (.str ⟨#[(figs w')[k]]⟩)) _ _
      have tk := List.take_add_one (l := figs w') (i := k)
      rw [List.getElem?_eq_getElem hk, Option.toList_some] at tk
      generalize hch : (figs w')[k] = ch at tk ⊢
      refine ss_if ?_
      repeat' walk_at "vc"
      rw [sign_in]
      refine if_b (fun q => ?_) (fun q => ?_)
      · repeat' walk_at "vc"
        refine no (hOf_none' fun z => ?_)
        have := List.all_eq_true.mp z.2.2.2.1 _ (List.getElem_mem hk)
        rw [hch] at this
        rw [this] at q
        cases q
      · have q' : isD ch = true := by simpa using q
        obtain ⟨rest, ho⟩ := sign_at q'
        repeat' (first | walk_at "vc" | refine cb_index ho ?_)
        · exact ⟨.inr (by decide)⟩
        refine ⟨rfl, fun j hj z => ?_, ?_, by walk_at "nm"⟩
        · by_cases e : j = k
          · subst e; rw [hch]; exact q'
          · exact g0 j hj (by omega)
        · rw [tk, NumText.digitsVal_snoc, show ((NumText.digitsVal ((figs w').take k) * 10 + (ch - 48) : Nat) : Int) = ((NumText.digitsVal ((figs w').take k) : Nat) : Int) * 10 + ((ch - 48 : Nat) : Int) by omega]
          walk_at "nm"
    · clear g1 g2 l
      rintro l _ ⟨rfl, g0, g1, g2⟩
      rw [List.length_map] at g0 g1
      rw [List.take_length] at g1
      refine ⟨rfl, List.all_eq_true.mpr fun x hx => ?_, g1, g2⟩
      obtain ⟨j, hj, rfl⟩ := List.getElem_of_mem hx
      exact g0 j hj hj
  clear g1 g2 l
  rintro l _ ⟨rfl, q4, g1, g2⟩
  generalize hn : NumText.digitsVal (figs w') = n at g1
  refine ss_cut (fun l hp' => hp = hp' ∧ l "_law_found" = some (.int (sgn w' n))) ?_ ?_
  · refine s_if ?_
    repeat' walk_at "vc"
    · exact sw
    rw [take_dash]
    refine if_decide (fun q => ?_) (fun q => ?_)
    · repeat' walk_at "vc"
      refine ⟨rfl, rfl, ?_⟩
      rw [show sgn w' n = -(n : Int) from by unfold sgn; rw [if_pos q]]
      walk_at "nm"
    · repeat' walk_at "vc"
      refine ⟨rfl, rfl, ?_⟩
      rw [show sgn w' n = (n : Int) from by unfold sgn; rw [if_neg q]]
      walk_at "nm"
  clear g1 g2 l
  rintro l _ ⟨rfl, g1⟩
  refine ss_if ?_
  repeat' walk_at "vc"
  have nb : ¬ (-1000000000000000000 ≤ sgn w' n ∧ sgn w' n ≤ 1000000000000000000) → hOf w' = none := fun z => hOf_none' fun y => z (by
    have := y.2.2.2.2
    rw [hn] at this
    unfold bnd at this
    rw [Bool.and_eq_true, decide_eq_true_eq, decide_eq_true_eq] at this
    exact this)
  refine if_decide (fun z1 => ?_) (fun z1 => ?_)
  · repeat' walk_at "vc"
    refine if_ndecide (fun z2 => ?_) (fun z2 => ?_)
    · repeat' walk_at "vc"
      exact no (nb fun y => z2 y.2)
    · repeat' walk_at "vc"
      rw [hOf_some' ⟨q1, q2, q3, q4, by rw [hn]; unfold bnd; rw [decide_eq_true z1, decide_eq_true z2]; rfl⟩, hn] at h
      exact h
  · repeat' walk_at "vc"
    exact no (nb fun y => z1 y.1)
theorem os_of {fs : List (List Nat)} {vs : List V} (hl : vs.length = fs.length) (h : ∀ (j : Nat) (hj : j < vs.length), vs[j] = oV (hOf (fs.getD j []))) : vs = (fs.map hOf).map oV := by
  refine List.ext_getElem (by simp [hl]) fun j h1 h2 => ?_
  rw [h j h1]
  have : j < fs.length := by omega
  simp [this]
theorem read_alike_ok {X : Value → List O → Prop} {Q : V → List O → Prop} {hp : List O} {t : List Nat} (ha : asc t) (hl : t.length ≤ 100000) (h : ∀ hp', Keep hp hp' → Q (.bool true) hp') : CallOK (pgo prog w p loose mean mg mb) (lev + 5) true ns 182 [.str (mkS t)] hp X Q := by
  refine fn_run (xs := ["_law_line"]) (fnAt_of rfl (by kernel_rfl) (fn1 fun _ => rfl) (by decide) (by decide) rfl rfl rfl) rfl (by decide +kernel) fun c hc => ?_
  obtain ⟨w1, w2, w3, w4, w5⟩ := wds_ok t
  have wa := wds_asc ha
  have wl := wds_len (t := t)
  repeat' walk_at "vc"
  refine i_val ?_
  repeat' walk_at "vc"
  rw [sp_mk]
  refine cb_split rfl ⟨by rw [mk_len]; omega⟩ ?_
  rw [w4]
  have k1 : Keep hp (hp ++ [O.list (((wds t).map mkS).map V.str)]) := Keep.refl.app
  have e1 := app_new (hp := hp) (o := O.list (((wds t).map mkS).map V.str))
  generalize hp ++ [O.list (((wds t).map mkS).map V.str)] = hp₁ at k1 e1 ⊢
  generalize hp.length = W at e1 ⊢
  refine srv_ref (by walk_at "cx") e1 ?_
  refine comp_gen (by walk_at "cx") (by kernel_rfl) (fun k v => v = oV (hOf ((wds t).getD k []))) (by rw [List.length_map, List.length_map, sizeLine_eq]; omega) (fun _ => app_get e1) ?_ ?_
  · intro k hk vs hv hr
    rw [List.length_map, List.length_map] at hk
    refine ⟨_, tgt1, fun c' hc' => ?_⟩
    rw [List.getElem_map, List.getElem_map]
    have hm := List.getElem_mem hk
    repeat' walk_at "vc"
    refine height_of_ok (wa _ hm) (by have := wl _ hm; omega) ?_
    refine ⟨rfl, ?_⟩
    simp [hk]
  intro vs hv hr
  rw [List.length_map, List.length_map] at hv
  rw [os_of hv hr]
  have e2 := app_new (hp := hp₁) (o := O.list (((wds t).map hOf).map oV))
  have k2 : Keep hp (hp₁ ++ [O.list (((wds t).map hOf).map oV)]) := k1.app
  generalize hp₁ ++ [O.list (((wds t).map hOf).map oV)] = hp₂ at e2 k2 ⊢
  generalize hp₁.length = D at e2 ⊢
  clear hr hv vs e1 k1 hp₁ W
  show Ss _ _ _ _ _ _
  have sl : Side ((((wds t).map hOf).map oV).length < 2 ^ 63) := ⟨by rw [List.length_map, List.length_map]; omega⟩
  refine ss_if ?_
  repeat' (first | walk_at "vc" | refine cmp_nin e2 (dats_o _ _) (lay_o _) ?_)
  rw [any_o]
  refine if_decide (fun q => ?_) (fun q1 => ?_)
  · repeat' walk_at "vc"
    refine refused_line ha hl (.inr ?_) (fun hp' k => ?_)
    · obtain ⟨x, hx, e⟩ := List.mem_map.mp q
      exact ⟨x, hx, e⟩
    · repeat' walk_at "vc"
      exact h _ (k2.trans k)
  repeat' (first | walk_at "vc" | refine cb_len_ref e2 sl ?_)
  rw [List.length_map, List.length_map]
  refine if_decide (fun q => ?_) (fun q2 => ?_)
  · repeat' walk_at "vc"
    refine refused_line ha hl (.inl (by omega)) (fun hp' k => ?_)
    repeat' walk_at "vc"
    exact h _ (k2.trans k)
  obtain ⟨xs, ex⟩ := os_some q1
  rw [ex, oV_some] at e2
  repeat' walk_at "vc"
  refine ss_cons (s_try ?_)
  repeat' walk_at "vc"
  refine read_ok ha hl (fun xs' r hp₃ z1 z2 k3 e3 => ?_) (fun hp₃ z k3 => ?_)
  · rw [ex] at z2
    have : xs' = xs := by
      have := congrArg (List.map (fun o : Option Int => o.getD 0)) z2
      rw [List.map_map, List.map_map, show ((fun o : Option Int => o.getD 0) ∘ some) = id from rfl, List.map_id, List.map_id] at this
      exact this.symm
    subst this
    repeat' (first | walk_at "vc" | refine cmp_ints_eq e3 (k3 _ _ e2) ?_)
    rw [show decide (xs' = xs') = true by simp]
    exact h _ (k2.trans k3)
  · rcases z with z | ⟨x, hx, e⟩
    · omega
    · exact absurd (by rw [← e]; exact List.mem_map_of_mem hx) q1

def sgs : List Nat := [32, 33, 34, 35, 36, 38, 39, 40, 41, 42, 43, 44, 45, 46, 47, 48, 49, 50, 51, 52, 53, 54, 55, 56, 57, 58, 59, 60, 61, 62, 63, 64, 65, 66, 67, 68, 69, 70, 71, 72, 73, 74, 75, 76, 77, 78, 79, 80, 81, 82, 83, 84, 85, 86, 87, 88, 89, 90, 91, 92, 93, 94, 95, 96]
def sgs' : List Nat := [97, 98, 99, 100, 101, 102, 103, 104, 105, 106, 107, 108, 109, 110, 111, 112, 113, 114, 115, 116, 117, 118, 119, 120, 121, 122, 123, 124, 125, 126]
theorem sgs_mk : Str.ofString " !\"#$&'()*+,-./0123456789:;<=>?@ABCDEFGHIJKLMNOPQRSTUVWXYZ[\\]^_`" = mkS sgs := of_mk (by decide +kernel)
theorem sgs_mk' : Str.ofString "abcdefghijklmnopqrstuvwxyz{|}~" = mkS sgs' := of_mk (by decide +kernel)
theorem sgs_len : (sgs ++ sgs').length = 94 := rfl
theorem sgs_asc : asc (sgs ++ sgs') := by unfold asc; decide
theorem asc_app {a b : List Nat} (h : asc a) (h' : asc b) : asc (a ++ b) := fun c hc => (List.mem_append.mp hc).elim (h c) (h' c)
theorem asc_take {a : List Nat} (h : asc a) (n : Nat) : asc (a.take n) := fun c hc => h c (List.mem_of_mem_take hc)
theorem asc_drop {a : List Nat} (h : asc a) (n : Nat) : asc (a.drop n) := fun c hc => h c (List.mem_of_mem_drop hc)
theorem changed_ok {X : Value → List O → Prop} {Q : V → List O → Prop} {hp : List O} {t : List Nat} {a b : Int} (ha : asc t) (s : Side (t.length ≤ 90000)) (h : ∀ t', asc t' → t'.length ≤ t.length + 1 → Q (.str (mkS t')) hp) : CallOK (pgo prog w p loose mean mg mb) (lev + 1) true ns 189 [.str (mkS t), .int a, .int b] hp X Q := by
  refine fn_run (xs := ["_law_line", "_law_cell", "_law_more"]) (fnAt_of rfl (by kernel_rfl) (fn3 fun _ _ _ => rfl) (by decide) (by decide) rfl rfl rfl) rfl (by decide +kernel) fun c hc => ?_
  have s' := s.h
  have m1 := Int.emod_lt_of_pos a (b := 94) (by omega)
  have m2 := Int.emod_nonneg a (b := 94) (by omega)
  have it := item_at (l := sgs ++ sgs') (i := a % 94) m2 (by rw [sgs_len]; exact m1)
  have ic : (sgs ++ sgs').getD (a % 94).toNat 0 < 128 := sgs_asc _ (by
    have : (a % 94).toNat < (sgs ++ sgs').length := by rw [sgs_len]; omega
    rw [List.getD_eq_getElem?_getD, List.getElem?_eq_getElem this]
    exact List.getElem_mem this)
  have es : Str.ofString " !\"#$&'()*+,-./0123456789:;<=>?@ABCDEFGHIJKLMNOPQRSTUVWXYZ[\\]^_`" ++ Str.ofString "abcdefghijklmnopqrstuvwxyz{|}~" = mkS (sgs ++ sgs') := by rw [sgs_mk, sgs_mk', mk_app]
  have sl : Side ((Str.ofString " !\"#$&'()*+,-./0123456789:;<=>?@ABCDEFGHIJKLMNOPQRSTUVWXYZ[\\]^_`").length + (Str.ofString "abcdefghijklmnopqrstuvwxyz{|}~").length ≤ sizeLine) := ⟨by rw [sgs_mk, sgs_mk', mk_len, mk_len, sizeLine_eq]; decide⟩
  have st : Side ((mkS t).length < 2 ^ 62) := ⟨by rw [mk_len]; omega⟩
  have sz' : Side ((mkS t).length ≤ sizeLine) := ⟨by rw [mk_len, sizeLine_eq]; omega⟩
  repeat' walk_at "vc"
  all_goals first | exact sl | walk_at "side" | skip
  rw [es]
  repeat' (first | walk_at "vc" | refine sb_str (fits_of m2 (by omega)) it.1 ?_)
  all_goals first | exact st | exact ⟨by rw [mk_len]; omega⟩ | walk_at "side" | skip
  rw [it.2, mk_len]
  generalize (sgs ++ sgs').getD (a % 94).toNat 0 = ch at ic ⊢
  have m3 := Int.emod_lt_of_pos b (b := (t.length : Int) + 1) (by omega)
  have m4 := Int.emod_nonneg b (b := (t.length : Int) + 1) (by omega)
  generalize b % ((t.length : Int) + 1) = k at m3 m4 ⊢
  have e1 : Txt.slice (mkS t) none (some k) = mkS (t.take k.toNat) := slice_to t m4
  have e2 : Txt.slice (mkS t) (some k) none = mkS (t.drop k.toNat) := slice_from t m4
  have e3 : Txt.slice (mkS t) (some (k + 1)) none = mkS (t.drop (k + 1).toNat) := slice_from t (by omega)
  have l1 := List.length_take (l := t) (i := k.toNat)
  have l2 := List.length_drop (l := t) (i := k.toNat)
  have l3 := List.length_drop (l := t) (i := (k + 1).toNat)
  have ca : asc [ch] := fun c hc => by rw [List.mem_singleton.mp hc]; exact ic
  refine ss_if ?_
  repeat' walk_at "vc"
  all_goals first | walk_at "side" | skip
  refine if_decide (fun q => ?_) (fun q => ?_)
  · repeat' walk_at "vc"
    all_goals first | exact sz' | exact ⟨by rw [e1, mk_len, mk_len, sizeLine_eq, List.length_singleton]; omega⟩ | exact ⟨by rw [e1, e2, mk_app, mk_len, mk_len, sizeLine_eq, List.length_append, List.length_singleton]; omega⟩ | skip
    rw [e1, e2, mk_app, mk_app]
    exact h _ (asc_app (asc_app (asc_take ha _) ca) (asc_drop ha _)) (by rw [List.length_append, List.length_append, List.length_singleton]; omega)
  repeat' walk_at "vc"
  refine ss_if ?_
  repeat' walk_at "vc"
  all_goals first | walk_at "side" | skip
  refine if_decide (fun q => ?_) (fun q => ?_)
  · repeat' walk_at "vc"
    all_goals first | exact sz' | exact ⟨by rw [e1, mk_len, mk_len, sizeLine_eq, List.length_singleton]; omega⟩ | exact ⟨by rw [e1, e3, mk_app, mk_len, mk_len, sizeLine_eq, List.length_append, List.length_singleton]; omega⟩ | skip
    rw [e1, e3, mk_app, mk_app]
    exact h _ (asc_app (asc_app (asc_take ha _) ca) (asc_drop ha _)) (by rw [List.length_append, List.length_append, List.length_singleton]; omega)
  repeat' walk_at "vc"
  all_goals first | exact sz' | exact ⟨by rw [e1, e3, mk_len, mk_len, sizeLine_eq]; omega⟩ | skip
  rw [e1, e3, mk_app]
  exact h _ (asc_app (asc_take ha _) (asc_drop ha _)) (by rw [List.length_append]; omega)
/-- a text that writes no land -/
def WB (z : Str) : Prop := ∃ x, z = mkS x ∧ (∃ y ∈ wds x, hOf y = none) ∧ asc x ∧ x.length ≤ 100
theorem wb_lit {z : Str} {x : List Nat} (e : z = mkS x) (h1 : 32 ∉ x) (h2 : hOf x = none) (h3 : asc x) (h4 : x.length ≤ 100) : WB z := ⟨x, e, ⟨x, by rw [wds_one h1]; simp, h2⟩, h3, h4⟩
theorem hOf_bad {x : List Nat} {c : Nat} (hc : c ∈ x.drop 1) (hd : isD c = false) : hOf x = none := hOf_none fun z => by
  have : c ∈ figs x := by
    unfold figs
    split
    · exact hc
    · exact List.mem_of_mem_drop hc
  have := List.all_eq_true.mp z.2.2.1 c this
  rw [hd] at this
  cases this
theorem wds_nil : wds [] = [[]] := wds_one (by simp)
theorem mul19 : Txt.mul (Str.ofString "0") 19 = mkS (List.replicate 19 48) := by
  rw [nought_mk]
  decide +kernel
theorem wrong_by_ok {X : Value → List O → Prop} {Q : V → List O → Prop} {hp : List O} {i : Nat} {xs : List Int} {a : Int} (hi : hp[i]? = some (.list (((xs.map wd).map mkS).map V.str))) (hb : Bnd xs) (s : Side (1 ≤ xs.length ∧ xs.length ≤ 200)) (h : ∀ x hp', Keep hp hp' → (∃ y ∈ wds x, hOf y = none) → asc x → x.length ≤ 100 → Q (.str (mkS x)) hp') : CallOK (pgo prog w p loose mean mg mb) (lev + 1) true ns 163 [.ref i, .int a] hp X Q := by
  refine fn_run (xs := ["_law_words", "_law_cell"]) (fnAt_of rfl (by kernel_rfl) (fn2 fun _ _ => rfl) (by decide) (by decide) rfl rfl rfl) rfl (by decide +kernel) fun c hc => ?_
  have s' := s.h
  have hlen : (((xs.map wd).map mkS).map V.str).length = xs.length := by simp
  have sl : Side ((((xs.map wd).map mkS).map V.str).length < 2 ^ 63) := ⟨by rw [hlen]; omega⟩
  repeat' (first | walk_at "vc" | refine cb_len_ref hi sl ?_)
  · walk_at "side"
  · exact ⟨by rw [hlen]; omega⟩
  have m1 := Int.emod_lt_of_pos (a / 25) (b := (((((xs.map wd).map mkS).map V.str).length : Nat) : Int)) (by rw [hlen]; omega)
  have m2 := Int.emod_nonneg (a / 25) (b := (((((xs.map wd).map mkS).map V.str).length : Nat) : Int)) (by rw [hlen]; omega)
  refine sb_all hi ⟨m2, m1, by rw [hlen]; omega⟩ (fun v hv => ?_)
  have hv' : ∃ o, v = .str (mkS o) ∧ asc o ∧ 32 ∉ o ∧ o.length ≤ 20 ∧ o ≠ [] := by
    obtain ⟨z, hz, rfl⟩ := List.mem_map.mp hv
    obtain ⟨o, ho, rfl⟩ := List.mem_map.mp hz
    obtain ⟨x, hx, rfl⟩ := List.mem_map.mp ho
    refine ⟨wd x, rfl, wd_asc x, wd_free x, wd_len (hb x hx).1 (hb x hx).2, ?_⟩
    unfold wd
    split
    · simp
    · exact dg_ne _
  clear hv m1 m2
  obtain ⟨o, rfl, o1, o2, o3, o4⟩ := hv'
  have lo : (mkS o).length ≤ 20 := by rw [mk_len]; exact o3
  have x1 : Str.ofString "x" = mkS [120] := of_mk (by decide)
  have x2 : Str.ofString "  " = mkS [32, 32] := of_mk (by decide)
  have x3 : Str.ofString " -" = mkS [32, 45] := of_mk (by decide)
  have x4 : Str.ofString " 1\n" = mkS [32, 49, 10] := of_mk (by decide)
  have x5 : Str.ofString "\t1" = mkS [9, 49] := of_mk (by decide)
  have x6 : Str.ofString "1" = mkS [49] := of_mk (by decide)
  have x7 : Str.ofString "-1" = mkS [45, 49] := of_mk (by decide)
  repeat' (first | walk_at "vc" | refine bin_strmul ⟨by decide, fun _ _ => by rw [nought_mk, mk_len]; decide, fun _ _ => by rw [nought_mk, mk_len]; decide +kernel⟩ ?_)
  all_goals first | walk_at "side" | exact ⟨by simp only [sp_mk, x1, x2, x3, x4, x5, x6, x7, mul19, mk_app, mk_len, List.length_append, List.length_cons, List.length_nil, List.length_replicate, sizeLine_eq]; omega⟩ | exact ⟨by rw [sizeLine_eq]; simp⟩ | skip
  refine sb_all app_new ⟨by omega, ?_, by simp⟩ (fun v hv => ?_)
  · simp only [List.length_append, List.length_cons, List.length_nil]
    omega
  have k1 : ∀ {u v y z q : O}, Keep hp (hp ++ [u] ++ [v] ++ [y] ++ [z] ++ [q]) := Keep.refl.app.app.app.app.app
  have nn : ([] : List Nat) ∈ wds [] := by rw [wds_nil]; simp
  have n0 : hOf [] = none := by decide +kernel
  have hwb : ∃ z, v = .str z ∧ WB z := by
    have fin : ∀ z, v = .str z → WB z → ∃ z, v = .str z ∧ WB z := fun z e y => ⟨z, e, y⟩
    rcases List.mem_append.mp hv with hv | hv
    · rcases List.mem_append.mp hv with hv | hv
      · simp only [List.mem_cons, List.not_mem_nil, or_false] at hv
        rcases hv with rfl | rfl | rfl | rfl | rfl | rfl | rfl | rfl | rfl | rfl
        · exact fin _ rfl (wb_lit (x := []) (of_mk (by decide)) (by decide) n0 (by unfold asc; decide) (by decide))
        · exact fin _ rfl ⟨[32], of_mk (by decide), ⟨[], by rw [show [32] = [] ++ 32 :: [] from rfl, wds_sp]; exact List.mem_append_left _ nn, n0⟩, by unfold asc; decide, by decide⟩
        · exact fin _ rfl ⟨o ++ 32 :: [], by rw [sp_mk, mk_app], ⟨[], by rw [wds_sp]; exact List.mem_append_right _ nn, n0⟩, asc_app o1 (by unfold asc; decide), by rw [List.length_append]; simp; omega⟩
        · exact fin _ rfl ⟨[] ++ 32 :: o, by rw [sp_mk, mk_app]; rfl, ⟨[], by rw [wds_sp]; exact List.mem_append_left _ nn, n0⟩, asc_app (a := [32]) (by unfold asc; decide) o1, by simp; omega⟩
        · exact fin _ rfl ⟨o ++ 32 :: ([] ++ 32 :: o), by rw [x2, mk_app, mk_app]; simp, ⟨[], by rw [wds_sp, wds_sp]; exact List.mem_append_right _ (List.mem_append_left _ nn), n0⟩, asc_app o1 (fun c hc => by simp only [List.nil_append, List.mem_cons] at hc; rcases hc with rfl | rfl | hc <;> first | decide | exact o1 _ hc), by rw [List.length_append]; simp; omega⟩
        · exact fin _ rfl (wb_lit (x := [43, 49]) (of_mk (by decide)) (by decide) (by decide +kernel) (by unfold asc; decide) (by decide))
        · exact fin _ rfl (wb_lit (x := [45, 48]) (of_mk (by decide)) (by decide) (by decide +kernel) (by unfold asc; decide) (by decide))
        · exact fin _ rfl (wb_lit (x := [48, 48]) (of_mk (by decide)) (by decide) (by decide +kernel) (by unfold asc; decide) (by decide))
        · exact fin _ rfl (wb_lit (x := [48, 49]) (of_mk (by decide)) (by decide) (by decide +kernel) (by unfold asc; decide) (by decide))
        · exact fin _ rfl (wb_lit (x := [45, 48, 49]) (of_mk (by decide)) (by decide) (by decide +kernel) (by unfold asc; decide) (by decide))
      · simp only [List.mem_cons, List.not_mem_nil, or_false] at hv
        rcases hv with rfl | rfl | rfl | rfl | rfl | rfl | rfl | rfl | rfl | rfl
        · exact fin _ rfl (wb_lit (x := [49, 46]) (of_mk (by decide)) (by decide) (by decide +kernel) (by unfold asc; decide) (by decide))
        · exact fin _ rfl (wb_lit (x := [49, 44, 50]) (of_mk (by decide)) (by decide) (by decide +kernel) (by unfold asc; decide) (by decide))
        · exact fin _ rfl (wb_lit (x := [97]) (of_mk (by decide)) (by decide) (by decide +kernel) (by unfold asc; decide) (by decide))
        · refine fin _ rfl (wb_lit (x := o ++ [120]) (by rw [x1, mk_app]) (fun z => ?_) (hOf_bad (c := 120) ?_ (by decide)) (asc_app o1 (by unfold asc; decide)) (by rw [List.length_append]; simp; omega))
          · rcases List.mem_append.mp z with z | z
            · exact o2 z
            · simp at z
          · cases o with
            | nil => exact absurd rfl o4
            | cons a b => simp
        · exact fin _ rfl ⟨o ++ 32 :: [45], by rw [x3, mk_app], ⟨[45], by rw [wds_sp, wds_one (w := [45]) (by decide)]; simp, by decide +kernel⟩, asc_app o1 (by unfold asc; decide), by rw [List.length_append]; simp; omega⟩
        · exact fin _ rfl (wb_lit (x := [45, 45, 49]) (of_mk (by decide)) (by decide) (by decide +kernel) (by unfold asc; decide) (by decide))
        · exact fin _ rfl (wb_lit (x := [49, 45]) (of_mk (by decide)) (by decide) (by decide +kernel) (by unfold asc; decide) (by decide))
        · exact fin _ rfl ⟨[49, 32, 43, 50], of_mk (by decide), ⟨[43, 50], by rw [show [49, 32, 43, 50] = [49] ++ 32 :: [43, 50] from rfl, wds_sp, wds_one (w := [43, 50]) (by decide)]; simp, by decide +kernel⟩, by unfold asc; decide, by decide⟩
        · exact fin _ rfl (wb_lit (x := [48, 120, 49]) (of_mk (by decide)) (by decide) (by decide +kernel) (by unfold asc; decide) (by decide))
        · exact fin _ rfl (wb_lit (x := [49, 95, 48]) (of_mk (by decide)) (by decide) (by decide +kernel) (by unfold asc; decide) (by decide))
    · simp only [List.mem_cons, List.not_mem_nil, or_false] at hv
      rcases hv with rfl | rfl | rfl | rfl | rfl
      · exact fin _ rfl (wb_lit (x := [49] ++ List.replicate 19 48) (by rw [x6, mul19, mk_app]) (by decide) (by decide +kernel) (by unfold asc; decide) (by decide))
      · exact fin _ rfl (wb_lit (x := [45, 49] ++ List.replicate 19 48) (by rw [x7, mul19, mk_app]) (by decide) (by decide +kernel) (by unfold asc; decide) (by decide))
      · exact fin _ rfl (wb_lit (x := [49, 48, 48, 48, 48, 48, 48, 48, 48, 48, 48, 48, 48, 48, 48, 48, 48, 48, 49]) (of_mk (by decide)) (by decide) (by decide +kernel) (by unfold asc; decide) (by decide))
      · exact fin _ rfl ⟨o ++ 32 :: [49, 10], by rw [x4, mk_app], ⟨[49, 10], by rw [wds_sp, wds_one (w := [49, 10]) (by decide)]; simp, by decide +kernel⟩, asc_app o1 (by unfold asc; decide), by rw [List.length_append]; simp; omega⟩
      · refine fin _ rfl (wb_lit (x := o ++ [9, 49]) (by rw [x5, mk_app]) (fun z => ?_) (hOf_bad (c := 9) ?_ (by decide)) (asc_app o1 (by unfold asc; decide)) (by rw [List.length_append]; simp; omega))
        · rcases List.mem_append.mp z with z | z
          · exact o2 z
          · simp at z
        · cases o with
          | nil => exact absurd rfl o4
          | cons a b => simp
  obtain ⟨z, rfl, x, rfl, e2, e3, e4⟩ := hwb
  exact h x _ k1 e2 e3 e4

theorem bools_of {vs : List V} {b : Bool} (h : ∀ (j : Nat) (hj : j < vs.length), vs[j] = .bool b) : vs = (List.replicate vs.length b).map V.bool := by
  refine List.ext_getElem (by simp) fun j h1 h2 => ?_
  rw [h j h1]
  simp
theorem all_rep {n : Nat} : (List.replicate n true).all id = true := by
  rw [List.all_eq_true]
  intro x hx
  exact (List.eq_of_mem_replicate hx)
theorem pick_to {vs : List V} {k : Int} (h : 0 ≤ k) : pickV vs none (some k) = vs.take k.toNat := by
  unfold pickV
  have h1 : kms_lo none vs.length = 0 := rfl
  have h2 : kms_hi (some k) vs.length = min k.toNat vs.length := by
    show (if k < 0 then _ else _) = _
    rw [if_neg (by omega)]
  rw [h1, h2, List.drop_zero, Nat.sub_zero]
  rcases Nat.le_total k.toNat vs.length with q | q
  · rw [Nat.min_eq_left q]
  · rw [Nat.min_eq_right q, List.take_length, List.take_of_length_le q]
theorem pick_from {vs : List V} {k : Int} (h : 0 ≤ k) : pickV vs (some k) none = vs.drop k.toNat := by
  unfold pickV
  have h1 : kms_hi none vs.length = vs.length := rfl
  have h2 : kms_lo (some k) vs.length = min k.toNat vs.length := by
    show (if k < 0 then _ else _) = _
    rw [if_neg (by omega)]
  rw [h1, h2]
  rcases Nat.le_total k.toNat vs.length with q | q
  · rw [Nat.min_eq_left q, List.take_of_length_le (by rw [List.length_drop]; omega)]
  · rw [Nat.min_eq_right q, List.drop_of_length_le q, List.drop_of_length_le (Nat.le_refl _)]
    simp
theorem asc_jn : ∀ {ws : List (List Nat)}, (∀ x ∈ ws, asc x) → asc (jn ws)
  | [], _ => fun c hc => by simp [jn] at hc
  | [v], h => h v (by simp)
  | v :: u :: r, h => by
    rw [jn]
    refine asc_app (h v (by simp)) fun c hc => ?_
    rcases List.mem_cons.mp hc with e | e
    · omega
    · exact asc_jn (fun x hx => h x (List.mem_cons_of_mem _ hx)) c e
theorem strs_rep {vs : List V} (h : ∀ (j : Nat) (hj : j < vs.length), vs[j] = .str (mkS [55])) : vs = ((List.replicate vs.length [55]).map mkS).map V.str := by
  refine List.ext_getElem (by simp) fun j h1 h2 => ?_
  rw [h j h1]
  simp
theorem law_ok {s₁ : Shared} {fa a : Addr} {vals : List Value} {R : Result → Shared → Prop}
    (T : Top p loose mean mg mb s₁.heap) (KX : (Mine.hd11.heap_1 w.params).In s₁.heap) (hmg : mg "law" = some (.ref fa)) (hL : s₁.heap.IsList a vals.toArray) (hI : IntsAre vals ns) (hn : ns.length ≤ 63)
    (hR : ∀ s' m', Fr s₁.heap s₁.heap.objs.size s'.heap m' → s'.gens = s₁.gens → s'.os = s₁.os → R (.ok (.ret (.bool true))) s') : codeAny (model prog w) callerA (.call (.ref fa) ⟨[.ref a], []⟩) R s₁ := by
  refine law_go (pg := pgo prog w p loose mean mg mb) (f := 194) (x := "_law_script") T KX hmg hL hI hn (by kernel_rfl) (fnAt_of rfl (by kernel_rfl) (fn1 fun _ => rfl) (by decide) (by decide) rfl rfl rfl) (by decide +kernel) hR fun c hc => ?_
  have hn' : ns.length < 2 ^ 62 := by omega
  repeat' walk_at "vc"
  refine land_by_bd hn' (by walk_at "side") (fun xs₀ xb x1 x2 => ?_)
  repeat' walk_at "vc"
  refine ss_cut (fun l hp => ∃ (i : Nat) (xs : List Int), hp[i]? = some (.list (xs.map .int)) ∧ Bnd xs ∧ 1 ≤ xs.length ∧ xs.length ≤ 200 ∧ l "_law_land" = some (.ref i) ∧ l "_law_script" = some .scr) ?_ ?_
  · refine s_if ?_
    repeat' (first | walk_at "vc" | refine cell_at_ok hn' ?_ ?_)
    all_goals try walk_at "side"
    refine if_decide (fun q => ?_) (fun q => ?_)
    · repeat' (first | walk_at "vc" | refine longer_bd hn' (by walk_at "hp") xb ⟨by omega, by decide, by decide, by decide, by decide⟩ (fun ys yb hy => ?_))
      exact ⟨rfl, _, ys, by walk_at "hp", yb, by omega, by omega, by walk_at "nm", by walk_at "nm"⟩
    · repeat' walk_at "vc"
      exact ⟨rfl, _, xs₀, by walk_at "hp", xb, by omega, by omega, by walk_at "nm", by walk_at "nm"⟩
  clear x1 x2 xb xs₀
  rintro l hp ⟨i, xs, hi, hb, x1, x2, l1, l2⟩
  have szx : Side ((xs.map V.int).length ≤ sizeLine) := ⟨by rw [List.length_map, sizeLine_eq]; omega⟩
  have ep : pickV (xs.map V.int) none (some 200) = xs.map V.int := by rw [pick_to (by decide), List.take_of_length_le (by rw [List.length_map]; exact x2)]
  repeat' walk_at "vc"
  all_goals first | exact szx | (rw [ep]; exact szx) | skip
  rw [ep]
  have e2 := app_get (t := [O.list (xs.map V.int)]) (app_new (hp := hp) (o := O.list (xs.map V.int)))
  have f2 := app_new (hp := hp ++ [O.list (xs.map V.int)]) (o := O.list (xs.map V.int))
  generalize hp ++ [O.list (xs.map V.int)] ++ [O.list (xs.map V.int)] = hp₂ at e2 f2 ⊢
  generalize (hp ++ [O.list (xs.map V.int)]).length = i₂ at f2 ⊢
  generalize hp.length = i₁ at e2 ⊢
  clear hi ep l1
  refine i_val ?_
  repeat' walk_at "vc"
  refine srv_ref (by walk_at "cx") e2 ?_
  refine comp_gen (by walk_at "cx") (by kernel_rfl) (fun k v => v = .str (mkS ((xs.map wd).getD k []))) (by rw [List.length_map, sizeLine_eq]; omega) (fun _ => app_get e2) ?_ ?_
  · intro k hk vs hv hr
    rw [List.length_map] at hk
    refine ⟨_, tgt1, fun c' hc' => ?_⟩
    rw [List.getElem_map]
    have hx := hb _ (List.getElem_mem hk)
    repeat' walk_at "vc"
    refine figures_by_ok ⟨hx⟩ ?_
    refine ⟨rfl, ?_⟩
    simp [hk]
  intro vs hv hr
  rw [List.length_map] at hv
  rw [strs_of (by rw [hv]; simp) hr]
  have e3 := app_get (t := [O.list (((xs.map wd).map mkS).map V.str)]) e2
  have f3 := app_get (t := [O.list (((xs.map wd).map mkS).map V.str)]) f2
  have g3 := app_new (hp := hp₂) (o := O.list (((xs.map wd).map mkS).map V.str))
  generalize hp₂ ++ [O.list (((xs.map wd).map mkS).map V.str)] = hp₃ at e3 f3 g3 ⊢
  generalize hp₂.length = i₃ at g3 ⊢
  clear hr hv vs e2 f2
  have wa : ∀ x ∈ xs.map wd, asc x := fun x hx => by obtain ⟨z, _, rfl⟩ := List.mem_map.mp hx; exact wd_asc z
  have wl : ∀ x ∈ xs.map wd, x.length ≤ 20 := fun x hx => by obtain ⟨z, hz, rfl⟩ := List.mem_map.mp hx; exact wd_len (hb z hz).1 (hb z hz).2
  have wf : ∀ x ∈ xs.map wd, 32 ∉ x := fun x hx => by obtain ⟨z, _, rfl⟩ := List.mem_map.mp hx; exact wd_free z
  have wn : xs.map wd ≠ [] := fun e => by rw [List.map_eq_nil_iff.mp e] at x1; simp at x1
  have ta : asc (jn (xs.map wd)) := asc_jn wa
  have tl : (jn (xs.map wd)).length ≤ 4200 := by
    have := jn_len (xs.map wd) 20 wl
    rw [List.length_map] at this
    omega
  have tw : wds (jn (xs.map wd)) = xs.map wd := wds_jn wn wf
  have th : (xs.map wd).map hOf = xs.map some := by
    rw [List.map_map]
    exact List.map_congr_left fun z hz => hOf_wd (hb z hz).1 (hb z hz).2
  have jf := join_fit (ws := xs.map wd) wl (by rw [List.length_map]; omega)
  show Ss _ _ _ _ _ _
  repeat' walk_at "vc"
  refine shown_ok f3 hb ⟨x2⟩ (fun hp₄ k4 => ?_)
  have e4 := k4 _ _ e3
  have f4 := k4 _ _ f3
  have g4 := k4 _ _ g3
  clear e3 f3 g3 k4
  repeat' walk_at "vc"
  refine ss_if ?_
  repeat' walk_at "vc"
  rw [sp_mk]
  refine cb_join g4 jf ?_
  rw [join_mk]
  repeat' (first | walk_at "vc" | refine cmp_ints_ne f4 e4 ?_)
  rw [mk_bne, show decide (jn (xs.map wd) = jn (xs.map wd)) = true by simp]
  repeat' (first | walk_at "vc" | refine cmp_ints_ne f4 e4 ?_)
  rw [show decide (xs = xs) = true by simp]
  repeat' walk_at "vc"
  refine read_ok ta (by omega) (fun xs' r hp₅ _ z2 k5 r5 => ?_) (fun hp₅ z _ => ?_)
  rotate_left
  · exfalso
    rcases z with z | ⟨x, hx, e⟩
    · rw [tw, List.length_map] at z; omega
    · rw [tw] at hx
      have : none ∈ (xs.map wd).map hOf := by rw [← e]; exact List.mem_map_of_mem hx
      rw [th] at this
      simp at this
  have ex : xs' = xs := by
    rw [tw, th] at z2
    have := congrArg (List.map (fun o : Option Int => o.getD 0)) z2
    rw [List.map_map, List.map_map, show ((fun o : Option Int => o.getD 0) ∘ some) = id from rfl, List.map_id, List.map_id] at this
    exact this.symm
  subst ex
  clear z2
  have e5 := k5 _ _ e4
  have g5 := k5 _ _ g4
  clear e4 f4 g4 k5
  repeat' walk_at "vc"
  refine ss_if ?_
  repeat' walk_at "vc"
  refine i_val ?_
  repeat' walk_at "vc"
  refine srv_ref (by walk_at "cx") r5 ?_
  refine comp_gen (by walk_at "cx") (by kernel_rfl) (fun _ v => v = .bool true) szx.h (fun _ => app_get r5) ?_ ?_
  · intro k hk vs hv hr
    refine ⟨_, tgt1, fun c' hc' => ?_⟩
    rw [List.getElem_map]
    repeat' walk_at "vc"
    refine whole_ok ?_
    exact ⟨rfl, rfl⟩
  intro vs hv hr
  rw [bools_of hr]
  repeat' walk_at "vc"
  refine cb_all (by walk_at "cx") app_new ?_
  rw [all_rep]
  have e6 := app_get (t := [O.list ((List.replicate vs.length true).map V.bool)]) e5
  have g6 := app_get (t := [O.list ((List.replicate vs.length true).map V.bool)]) g5
  have r6 := app_get (t := [O.list ((List.replicate vs.length true).map V.bool)]) r5
  generalize hp₅ ++ [O.list ((List.replicate vs.length true).map V.bool)] = hp₆ at e6 g6 r6 ⊢
  clear hr hv vs e5 g5 r5
  repeat' (first | walk_at "vc" | refine cmp_ints_ne r6 e6 ?_)
  rw [show decide (xs' = xs') = true by simp]
  clear e6 r6
  repeat' (first | walk_at "vc" | refine cell_at_ok hn' ?_ ?_)
  all_goals try walk_at "side"
  refine wrong_by_ok g6 hb ⟨x1, x2⟩ (fun x hp₇ k7 wb wa' wl' => ?_)
  have g7 := k7 _ _ g6
  clear g6 k7
  have hlen : (((xs'.map wd).map mkS).map V.str).length = xs'.length := by simp
  have sl : Side ((((xs'.map wd).map mkS).map V.str).length < 2 ^ 63) := ⟨by rw [hlen]; omega⟩
  repeat' (first | walk_at "vc" | refine cell_at_ok hn' ?_ ?_ | refine cb_len_ref g7 sl ?_)
  all_goals first | walk_at "side" | exact ⟨by rw [hlen]; omega⟩ | skip
  rw [hlen]
  have m1 := Int.emod_lt_of_pos (cell ns 1 / 50) (b := (xs'.length : Int)) (by omega)
  have m2 := Int.emod_nonneg (cell ns 1 / 50) (b := (xs'.length : Int)) (by omega)
  generalize cell ns 1 / 50 % (xs'.length : Int) = at' at m1 m2 ⊢
  refine ss_if ?_
  repeat' walk_at "vc"
  refine refused_line wa' (by omega) (.inr wb) (fun hp₈ k8 => ?_)
  have g8 := k8 _ _ g7
  clear g7 k8
  have p1 : pickV (((xs'.map wd).map mkS).map V.str) none (some at') = (((xs'.map wd).take at'.toNat).map mkS).map V.str := by rw [pick_to m2, List.map_take, List.map_take]
  have p2 : pickV (((xs'.map wd).map mkS).map V.str) (some (at' + 1)) none = (((xs'.map wd).drop (at' + 1).toNat).map mkS).map V.str := by rw [pick_from (by omega), List.map_drop, List.map_drop]
  have sg : Side ((((xs'.map wd).map mkS).map V.str).length ≤ sizeLine) := ⟨by rw [hlen, sizeLine_eq]; omega⟩
  have q1 := List.length_take (l := xs'.map wd) (i := at'.toNat)
  have q2 := List.length_drop (l := xs'.map wd) (i := (at' + 1).toNat)
  rw [List.length_map] at q1 q2
  repeat' walk_at "vc"
  all_goals first | exact sg | exact ⟨by rw [p1]; simp only [List.length_map, List.length_append, List.length_cons, List.length_nil, sizeLine_eq]; omega⟩ | exact ⟨by rw [p1, p2]; simp only [List.length_map, List.length_append, List.length_cons, List.length_nil, sizeLine_eq]; omega⟩ | skip
  rw [p1, p2]
  have em : (((xs'.map wd).take at'.toNat).map mkS).map V.str ++ [V.str (mkS x)] ++ (((xs'.map wd).drop (at' + 1).toNat).map mkS).map V.str = (((xs'.map wd).take at'.toNat ++ [x] ++ (xs'.map wd).drop (at' + 1).toNat).map mkS).map V.str := by simp only [List.map_append, List.map_cons, List.map_nil]
  rw [em]
  have ma : ∀ y ∈ (xs'.map wd).take at'.toNat ++ [x] ++ (xs'.map wd).drop (at' + 1).toNat, asc y ∧ y.length ≤ 100 := fun y hy => by
    simp only [List.mem_append, List.mem_singleton] at hy
    rcases hy with (h | h) | h
    · have := List.mem_of_mem_take h
      exact ⟨wa y this, by have := wl y this; omega⟩
    · rw [h]; exact ⟨wa', wl'⟩
    · have := List.mem_of_mem_drop h
      exact ⟨wa y this, by have := wl y this; omega⟩
  have ml : ((xs'.map wd).take at'.toNat ++ [x] ++ (xs'.map wd).drop (at' + 1).toNat).length ≤ 500 := by simp only [List.length_append, List.length_singleton]; omega
  refine cb_join app_new (join_fit (B := 100) (fun y hy => (ma y hy).2) (by omega)) ?_
  rw [join_mk]
  repeat' walk_at "vc"
  refine refused_line (asc_jn fun y hy => (ma y hy).1) (by have := jn_len _ 100 fun y hy => (ma y hy).2; omega) (.inr ?_) (fun hp₉ k9 => ?_)
  · obtain ⟨y, hy, e⟩ := wb
    refine ⟨y, ?_, e⟩
    rw [wds_mid (fun z hz => wf z (List.mem_of_mem_take hz)) (fun z hz => wf z (List.mem_of_mem_drop hz))]
    exact List.mem_append_left _ (List.mem_append_right _ hy)
  clear p1 p2 em ma ml q1 q2 k9 g8
  repeat' walk_at "vc"
  refine ss_if ?_
  repeat' (first | walk_at "vc" | refine cell_at_ok hn' ?_ ?_)
  all_goals try walk_at "side"
  refine sb_all app_new ⟨by omega, ?_, by simp⟩ (fun v hv => ?_)
  · simp only [List.length_cons, List.length_nil]
    omega
  have pv : (∃ a, v = .int a) ∨ v = .none ∨ ∃ j vs, v = .ref j ∧ (hp₉ ++ [O.list [V.str (Str.ofString "1")]] ++ [O.list [V.none, V.int 5, V.ref hp₉.length]])[j]? = some (O.list vs) := by
    simp only [List.mem_cons, List.not_mem_nil, or_false] at hv
    rcases hv with rfl | rfl | rfl
    · exact .inr (.inl rfl)
    · exact .inl ⟨_, rfl⟩
    · exact .inr (.inr ⟨_, _, rfl, app_get app_new⟩)
  clear hv
  generalize hp₉ ++ [O.list [V.str (Str.ofString "1")]] ++ [O.list [V.none, V.int 5, V.ref hp₉.length]] = hpA at pv ⊢
  repeat' walk_at "vc"
  refine refused_ok (fun X Q hx => read_bad pv (hx _ .refl)) (fun hpB kB => ?_)
  repeat' walk_at "vc"
  refine ss_if ?_
  repeat' (first | walk_at "vc" | refine cell_at_ok hn' ?_ ?_)
  all_goals try walk_at "side"
  refine changed_ok ta ⟨by omega⟩ (fun t' t1 t2 => ?_)
  repeat' walk_at "vc"
  refine read_alike_ok t1 (by omega) (fun hpC kC => ?_)
  repeat' walk_at "vc"
  refine i_range (by walk_at "cx") gl_range (by kernel_rfl) rfl ?_
  repeat' walk_at "vc"
  · walk_at "side"
  refine comp_gen (by walk_at "cx") (by kernel_rfl) (fun _ v => v = .str (mkS [55])) (by rw [rngItems_length, sizeLine_eq]; decide) (fun _ => trivial) ?_ ?_
  · intro k hk vs hv hr
    refine ⟨_, tgt1, fun c' hc' => ?_⟩
    repeat' walk_at "vc"
    exact ⟨rfl, by rw [show Str.ofString "7" = mkS [55] from of_mk (by decide)]⟩
  intro vs hv hr
  rw [rngItems_length] at hv
  rw [strs_rep hr, hv]
  have r1 : ∀ y ∈ List.replicate (201 : Int).toNat [55], y = [55] := fun y hy => List.eq_of_mem_replicate hy
  have r2 : (List.replicate (201 : Int).toNat [55]).length = 201 := by rw [List.length_replicate]; rfl
  generalize List.replicate (201 : Int).toNat [55] = rs at r1 r2 ⊢
  repeat' walk_at "vc"
  try rw [sp_mk]
  refine cb_join app_new (join_fit (B := 1) (fun y hy => by rw [r1 y hy]; decide) (by rw [r2]; decide)) ?_
  rw [join_mk]
  repeat' walk_at "vc"
  refine refused_line (asc_jn fun y hy => by rw [r1 y hy]; unfold asc; decide) (by have := jn_len rs 1 fun y hy => (by rw [r1 y hy]; decide); rw [r2] at this; omega) (.inl ?_) (fun hpD kD => ?_)
  · rw [wds_jn (fun e => by rw [e] at r2; cases r2) fun y hy => by rw [r1 y hy]; decide, r2]
    decide
  repeat' walk_at "vc"
  exact rfl

end
end Mine
open PySem PySem.W PySem.Calls PySem.Spec PyProof.Rows
set_option maxRecDepth 100000 in
set_option maxHeartbeats 8000000 in
theorem PySem.Challenge.cw_uf050038_11_holds : PySem.Challenge.rw_uf050038_11.Holds :=
  Mine.both_of Mine.hd11 Mine.left11 (by
  intro w s₀ s₁ mg mb G Y fa o pm cd doc dV kV ho hd hcd hD hmg hg args vals as hpre hlay hrd hwl hlo
  have KX := kIn_of Y
  refine Ground.open G ?_
  intro T B D TE TW
  wrow_args hpre hlay hrd hwl hlo
  all_goals first | refine callC_kw (enter_call ?_) | refine enter_call ?_ | refine callC_kw (enter_callW ?_) | refine enter_callW ?_
  refine codeAny_mono ?_ (fun _ _ g => GoodW.toG g)
  refine Mine.law_ok T KX hmg (by assumption) (by assumption) ?_ ?_
  · omega
  · intro s' m' F e1 e2
    refine goodW_bool F (e1.trans hg) (fun _ => rfl) ?_ e2
    wrow_post)
