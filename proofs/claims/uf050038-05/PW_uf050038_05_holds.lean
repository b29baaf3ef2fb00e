import PyProof.Rows.All
import Wide.All
import OpenK.AllK
import Wide.FinOn
import PyProof.Rows.Many
import PyProof.WalksMore
import PyProof.PlainList
import PyProof.TupleKey
import PyProof.DictKinds
import OpenK.KMake
import PyProof.Rows.News
import OpenK.KWalk
import OpenK.KCell
import KE.KTryMore
import PyProof.Cells
import PyProof.Rows.Nodes
import PyProof.Rows.Chain
import PyProof.Rows.TupSub
import PyProof.Rows.Own
import PyProof.Rows.IntRules
import PyProof.Raises
import PyProof.Rules2
import PyProof.ForAny
import PyProof.Rows.SeqInts
import PyProof.IsRules
import PyProof.ListTruth
import PyProof.Truth
import PyProof.Rows.RuleB_small
import PyProof.Rows.RuleB_mul
import PyProof.Rows.RuleB_mod
import PyProof.Rows.RuleB_floordiv
import PyProof.Rows.RuleU_int
import PyProof.Rows.RuleC_int
import PyProof.Rows.EqDataRows
import PyProof.Rows.SeqMore
import PyProof.IsiPairs
import PyProof.IsiNone
import PyProof.IsInstanceH
import PyProof.WalkInts
import PyProof.ListCopy
import PyProof.RangeFor
import PyProof.Methods
import PyProof.PureCalls
import PyProof.ListIndex
import PyProof.ListIndexNeg
import PyProof.Conv_int_bool
import PyProof.FactsAll.list_3
import PyProof.Rows.RuleN_abs
import PyProof.Rows.StrTemp
import PyProof.Rows.Method
import PyProof.Rows.Exc
import PyProof.Rows.StrRules
import PyProof.CompFree
import PyProof.CompMap
import PyProof.Rows.TupIter
import PyProof.Rows.TupAssign
import PyProof.RulesAssignMore
import KE.KItem
import KE.KPop
import OpenK.KOwn
import KE.KSliceW
import KE.KRevSl
import PyProof.ConsumeWalk
import PyProof.ZipIter
import PyProof.Rows.ZipGen
import PyProof.LayNew
import KE.KIsAll
import PyProof.ExcArgs
import KE.KMulAny
import PyProof.Rows.SeqCalls
import KE.KEqDeep
import PyProof.FactsAll.tuple_2
import PyProof.Rows.TupTab
import PyProof.Rows.DictMade
import PyProof.DictRoadsH
import PyProof.Rows.SortRuns
import PyProof.Rows.SortShell
import KE.KSortTup
import PyProof.Rows.SortWalk
import PySem.Challenge.RW_uf050038_05
set_option Elab.async false
set_option linter.all false
open PySem PySem.W PySem.Calls PySem.Spec PyProof.Rows

set_option autoImplicit false
namespace Mine
open PySem PySem.Calls PySem.Spec PyProof.Rows

/-! Abstract values and objects -/
inductive V where
  | none
  | bool (b : Bool)
  | int (n : Int)
  | str (s : Str)
  | tup (vs : List V)
  | ref (i : Nat)
  | scr
  | glob (v : Value)

inductive O where
  | list (vs : List V)
  | exn (C : Addr)
  | tab (ks : List (List Int))
  | inst (C : Addr) (j : Nat)
  | att (es : List (Str × V))
  | dic

structure St where
  loc : Str → Option V
  hp : List O

def setN (l : Str → Option V) (x : Str) (v : V) : Str → Option V := fun y => if y = x then some v else l y
def St.set (σ : St) (x : Str) (v : V) : St := ⟨setN σ.loc x v, σ.hp⟩

/-- where the abstract objects lie -/
structure Wd where
  al : List Addr
  tp : List (Addr × List Value)
  sc : Addr

def Wd.le (W W' : Wd) : Prop := W.al <+: W'.al ∧ (∀ t ∈ W.tp, t ∈ W'.tp) ∧ W.sc = W'.sc
theorem Wd.le.refl (W : Wd) : W.le W := ⟨List.prefix_refl _, fun _ h => h, rfl⟩
theorem Wd.le.trans {W W' W'' : Wd} (a : W.le W') (b : W'.le W'') : W.le W'' := ⟨a.1.trans b.1, fun t h => b.2.1 t (a.2.1 t h), a.2.2.trans b.2.2⟩

mutual
inductive VR (W : Wd) : V → Value → Prop
  | none : VR W .none .none
  | bool (b : Bool) : VR W (.bool b) (.bool b)
  | int (n : Int) (t : Tok) : VR W (.int n) (.int n t)
  | str (x : Str) (t : Tok) : VR W (.str x) (.str x t)
  | tup {vs : List V} {xs : List Value} {a : Addr} : (a, xs) ∈ W.tp → VRs W vs xs → VR W (.tup vs) (.ref a)
  | ref {i : Nat} {a : Addr} : W.al[i]? = some a → VR W (.ref i) (.ref a)
  | scr : VR W .scr (.ref W.sc)
  | glob (v : Value) : VR W (.glob v) v
inductive VRs (W : Wd) : List V → List Value → Prop
  | nil : VRs W [] []
  | cons {v : V} {vs : List V} {x : Value} {xs : List Value} : VR W v x → VRs W vs xs → VRs W (v :: vs) (x :: xs)
end

theorem prefix_get {α : Type} {l l' : List α} {i : Nat} {a : α} (h : l <+: l') (e : l[i]? = some a) : l'[i]? = some a := by
  obtain ⟨t, rfl⟩ := h
  rw [List.getElem?_append_left (by
    rcases Nat.lt_or_ge i l.length with q | q
    · exact q
    · rw [List.getElem?_eq_none q] at e; cases e)]
  exact e

mutual
theorem VR.mono {W W' : Wd} (h : W.le W') : ∀ {v : V} {x : Value}, VR W v x → VR W' v x
  | _, _, .none => .none
  | _, _, .bool b => .bool b
  | _, _, .int n t => .int n t
  | _, _, .str x t => .str x t
  | _, _, .tup m r => .tup (h.2.1 _ m) (VRs.mono h r)
  | _, _, .ref e => .ref (prefix_get h.1 e)
  | _, _, .scr => h.2.2 ▸ .scr
  | _, _, .glob v => .glob v
theorem VRs.mono {W W' : Wd} (h : W.le W') : ∀ {vs : List V} {xs : List Value}, VRs W vs xs → VRs W' vs xs
  | _, _, .nil => .nil
  | _, _, .cons a r => .cons (VR.mono h a) (VRs.mono h r)
end

theorem VRs.length {W : Wd} : ∀ {vs : List V} {xs : List Value}, VRs W vs xs → vs.length = xs.length
  | _, _, .nil => rfl
  | _, _, .cons _ r => by simp [VRs.length r]
theorem VRs.append {W : Wd} : ∀ {vs ws : List V} {xs ys : List Value}, VRs W vs xs → VRs W ws ys → VRs W (vs ++ ws) (xs ++ ys)
  | _, _, _, _, .nil => fun r => r
  | _, _, _, _, .cons a q => fun r => .cons a (VRs.append q r)
theorem VRs.get {W : Wd} : ∀ {vs : List V} {xs : List Value}, VRs W vs xs → ∀ {i : Nat} {v : V}, vs[i]? = some v → ∃ x, xs[i]? = some x ∧ VR W v x
  | _, _, .nil => by intro h; simp at h
  | _, _, .cons a r => by
    rename_i i v _ _ _ _
    intro h
    cases i with
    | zero => simp at h; subst h; exact ⟨_, rfl, a⟩
    | succ i => simpa using VRs.get r (by simpa using h)
abbrev tupObj (xs : List Value) : Obj := { cls := .type "tuple", data := .seq xs.toArray 0 }
abbrev listObj (xs : List Value) (n : Nat) : Obj := { cls := .type "list", data := .seq xs.toArray n }

/-- the hash of a tuple of numbers -/
def tabHash (ks : List Int) : Int := reduceHash (Builtin.Tuple.tupleHashOf (ks.map hashInt))
def AttE (W : Wd) : List (Str × V) → List DictEntry → Prop
  | [], [] => True
  | (x, v) :: es, d :: ds => (∃ t, d.key = .str x t) ∧ VR W v d.val ∧ AttE W es ds
  | _, _ => False
theorem AttE.mono {W W' : Wd} (h : W.le W') : ∀ {es : List (Str × V)} {ds : List DictEntry}, AttE W es ds → AttE W' es ds
  | [], [], _ => trivial
  | (_, _) :: _, _ :: _, ⟨a, b, c⟩ => ⟨a, b.mono h, AttE.mono h c⟩
  | [], _ :: _, x => x.elim
  | _ :: _, [], x => x.elim

inductive OR (W : Wd) : O → Addr → Obj → Prop
  | list {a : Addr} {vs : List V} {xs : List Value} (n : Nat) : VRs W vs xs → OR W (.list vs) a (listObj xs n)
  | exn {a C : Addr} {ob : Obj} {vs : Array Value} : ob.cls = .ref C → ob.data = .fields vs → OR W (.exn C) a ob
  | tab {a : Addr} {ks : List (List Int)} {ob : Obj} {es : Array DictEntry} {ep : Nat} {xs : List (List Int × Addr × Value)} : (a == sysModules) = false → ob.ExactDict → ob.data = .dict es ep → es.toList = xs.map (fun x => (⟨tabHash x.1, .ref x.2.1, x.2.2⟩ : DictEntry)) →
      xs.map (·.1) = ks → ks.Nodup → (∀ x ∈ xs, ∃ us, (x.2.1, us) ∈ W.tp ∧ VRs W (x.1.map .int) us) → OR W (.tab ks) a ob
  | inst {a C dx : Addr} {j : Nat} : W.al[j]? = some dx → OR W (.inst C j) a (PySem.W.instObj C dx)
  | att {a : Addr} {es : List (Str × V)} {ob : Obj} {ds : List DictEntry} {ep : Nat} : ob.cls = .type "dict" → ob.data = .dict ds.toArray ep → AttE W es ds → OR W (.att es) a ob
  | dic {a : Addr} {ob : Obj} : ob.cls = .type "dict" → OR W .dic a ob

theorem OR.mono {W W' : Wd} (h : W.le W') {o : O} {a : Addr} {ob : Obj} : OR W o a ob → OR W' o a ob
  | .list n r => .list n (r.mono h)
  | .exn a b => .exn a b
  | .tab a b c d e f g => .tab a b c d e f fun x hx => let ⟨us, h1, h2⟩ := g x hx; ⟨us, h.2.1 _ h1, h2.mono h⟩
  | .inst e => .inst (prefix_get h.1 e)
  | .att a b c => .att a b (c.mono h)
  | .dic a => .dic a

end Mine

set_option autoImplicit false
namespace Mine
open PySem PySem.W PySem.Calls PySem.Spec PyProof.Rows

/-- the program, its world, what stands at its top -/
structure Pg where
  prog : Program
  w : World
  K : Frag
  p : Program
  loose : List Str
  mean : ExcName → Option Value
  mg : Str → Option Value
  mb : Str → Option Value

/-- the value of a name at the top -/
def Pg.gl (pg : Pg) (x : Str) : Option Value :=
  match nsIn pg.K mainGlobals x with
  | some (some v) => some v
  | some none => if x = "__name__" then none else bootBuiltins x
  | none => none

/-- a frame: what does not change while its body runs -/
structure Fx where
  pg : Pg
  A : Around
  env : Env
  fenv : Env
  outer : List Env
  A₀ : Around
  base : Heap
  h₀ : Heap
  L : Addr
  ex : List (Addr × Obj)
  s₀ : Shared
  sc : Addr
  ns : List Int
  lev : Nat
  mfix : Option (Str → Option Value)
  qt : Bool

abbrev Fx.M (fx : Fx) : Model := model fx.pg.prog fx.pg.w

/-- a name-space object says x is u -/
def NsSays (o : Obj) (x : Str) (u : Value) : Prop := ∃ es ep, o.data = .dict es ep ∧ StrKeys es ∧ nsFind es x = some u

inductive NameAt (fx : Fx) (m : Str → Option Value) (news : List (Addr × Obj)) (x : Str) (u : Value) : Prop
  | loc : fx.env.kindOf x = some .local → fx.env.locals = fx.L → m x = some u → NameAt fx m news x u
  | comp {o : Obj} : fx.env.kindOf x = some .local → (fx.env.locals, o) ∈ fx.ex → NsSays o x u → NameAt fx m news x u
  | cell {c : Addr} {o : Obj} : fx.env.kindOf x = some .cell ∨ fx.env.kindOf x = some .free → fx.env.cells.lookup x = some c → (c, o) ∈ news → o.data = .cell (some u) → NameAt fx m news x u

structure Core (fx : Fx) (σ : St) (W : Wd) (m : Str → Option Value) (news : List (Addr × Obj)) : Prop where
  nd : (news.map (·.1)).Nodup
  exs : ∀ p ∈ fx.ex, p ∈ news
  exd : ∀ p ∈ fx.ex, p.1 ∉ W.al
  aln : W.al.Nodup
  len : W.al.length = σ.hp.length
  obs : ∀ (i : Nat) (o : O), σ.hp[i]? = some o → ∃ a ob, W.al[i]? = some a ∧ (a, ob) ∈ news ∧ OR W o a ob
  tps : ∀ t ∈ W.tp, (t.1, tupObj t.2) ∈ news
  loc : ∀ x v, σ.loc x = some v → ∃ u, VR W v u ∧ NameAt fx m news x u
  cel : ∀ x c, fx.env.cells.lookup x = some c → c ∉ W.al ∧ ∃ o v, (c, o) ∈ news ∧ o.data = .cell v
  scc : W.sc = fx.sc
  mfx : ∀ m₀, fx.mfix = some m₀ → m = m₀
  ext : ∀ p ∈ fx.ex, ∀ t ∈ W.tp, p.1 ≠ t.1

structure Rep (fx : Fx) (σ : St) (W : Wd) (s : Shared) : Prop where
  rest : s = { fx.s₀ with heap := s.heap, toks := s.toks }
  more : ∃ g m news, KtsTurn (fx.outer.filterMap (·.frame)) fx.h₀ g ∧ Fr g fx.L s.heap m ∧ News g fx.L s.heap news ∧ Core fx σ W m news

theorem Rep.elim {fx : Fx} {σ : St} {W : Wd} {s : Shared} {P : Prop} (R : Rep fx σ W s) (k : s = { fx.s₀ with heap := s.heap, toks := s.toks } → ∀ g m news, KtsTurn (fx.outer.filterMap (·.frame)) fx.h₀ g → Fr g fx.L s.heap m → News g fx.L s.heap news → Core fx σ W m news → P) : P := by
  obtain ⟨e, g, m, news, G, F, N, C⟩ := R
  exact k e g m news G F N C
theorem rest_with {s s₀ : Shared} (e : s = { s₀ with heap := s.heap, toks := s.toks }) (h : Heap) (t : Nat) : ({ s with heap := h, toks := t } : Shared) = { s₀ with heap := h, toks := t } := by
  rw [e]

theorem frKeeps {h₀ h h' : Heap} {L : Addr} {m : Str → Option Value} (F : Fr h₀ L h m) (k : ∀ b o, h.get? b = some o → h'.get? b = some o) : Fr h₀ L h' m :=
  ⟨F.ns.keeps k, fun b o e => k b o (F.keep b o e), F.above⟩
theorem newsKeeps {h₀ h h' : Heap} {L : Addr} {news : List (Addr × Obj)} (N : News h₀ L h news) (k : ∀ b o, h.get? b = some o → h'.get? b = some o) : News h₀ L h' news :=
  fun p hp => ⟨k _ _ (N p hp).1, (N p hp).2⟩

theorem Rep.keep {fx : Fx} {σ : St} {W : Wd} {s : Shared} (R : Rep fx σ W s) {h' : Heap} (tk : Nat) (k : ∀ b o, s.heap.get? b = some o → h'.get? b = some o) : Rep fx σ W { s with heap := h', toks := tk } := by
  refine R.elim fun e g m news G F N C => ?_
  exact ⟨rest_with e _ _, g, m, news, G, frKeeps F k, newsKeeps N k, C⟩

theorem Rep.toks {fx : Fx} {σ : St} {W : Wd} {s : Shared} (R : Rep fx σ W s) (tk : Nat) : Rep fx σ W { s with toks := tk } := by
  refine R.elim fun e g m news G F N C => ?_
  exact ⟨rest_with e _ _, g, m, news, G, F, N, C⟩

theorem newsNodup {h₀ h : Heap} {L : Addr} {news : List (Addr × Obj)} (N : News h₀ L h news) (nd : (news.map (·.1)).Nodup) (o : Obj) : (((h.objs.size, o) :: news).map (·.1)).Nodup := by
  rw [List.map_cons, List.nodup_cons]
  refine ⟨fun hm => ?_, nd⟩
  obtain ⟨p, hp, e⟩ := List.mem_map.mp hm
  have := Heap.lt_size (N p hp).1
  rw [show p.1 = h.objs.size from e] at this
  exact Nat.lt_irrefl _ this

theorem NameAt.mono {fx : Fx} {m : Str → Option Value} {news news' : List (Addr × Obj)} {x : Str} {u : Value} (h : ∀ p ∈ news, p ∈ news') : NameAt fx m news x u → NameAt fx m news' x u
  | .loc a b c => .loc a b c
  | .comp a b c => .comp a b c
  | .cell a b c d => .cell a b (h _ c) d

theorem Core.al_lt {fx : Fx} {σ : St} {W : Wd} {m : Str → Option Value} {news : List (Addr × Obj)} (C : Core fx σ W m news) {a : Addr} (ha : a ∈ W.al) : ∃ o, (a, o) ∈ news := by
  obtain ⟨i, hi, rfl⟩ := List.getElem_of_mem ha
  have hi' : i < σ.hp.length := C.len ▸ hi
  obtain ⟨a, ob, h1, h2, _⟩ := C.obs i σ.hp[i] (by simp [hi'])
  rw [List.getElem?_eq_getElem hi] at h1
  cases h1
  exact ⟨ob, h2⟩

/-- a new object of the abstract heap -/
theorem Rep.alloc {fx : Fx} {σ : St} {W : Wd} {s : Shared} (R : Rep fx σ W s) {o : O} {ob : Obj} (tk : Nat) (hf : ob.isFreed = false)
    (hr : ∀ W', W.le W' → OR W' o s.heap.objs.size ob) :
    ∃ W', W.le W' ∧ W'.al = W.al ++ [s.heap.objs.size] ∧ Rep fx ⟨σ.loc, σ.hp ++ [o]⟩ W' { s with heap := s.heap.push ob, toks := tk } := by
  refine R.elim fun e g m news G F N C => ?_
  have hle : W.le ⟨W.al ++ [s.heap.objs.size], W.tp, W.sc⟩ := ⟨List.prefix_append _ _, fun _ h => h, rfl⟩
  refine ⟨⟨W.al ++ [s.heap.objs.size], W.tp, W.sc⟩, hle, rfl, rest_with e _ _, g, m, (s.heap.objs.size, ob) :: news, G, F.push ob, N.push F ob hf, ?_⟩
  have fresh : ∀ p ∈ news, p.1 ≠ s.heap.objs.size := fun p hp => Nat.ne_of_lt (Heap.lt_size (N p hp).1)
  refine ⟨newsNodup N C.nd ob, fun p hp => .tail _ (C.exs p hp), fun p hp hm => ?_, ?_, ?_, fun i o' h => ?_, fun t ht => .tail _ (C.tps t ht), fun x v h => ?_, fun x c h => ?_, C.scc, C.mfx, C.ext⟩
  · rcases List.mem_append.mp hm with hm | hm
    · exact C.exd p hp hm
    · exact fresh p (C.exs p hp) (List.mem_singleton.mp hm)
  · refine List.nodup_append.mpr ⟨C.aln, by simp, fun a ha b hb => ?_⟩
    rw [List.mem_singleton.mp hb]
    obtain ⟨o', ho'⟩ := C.al_lt ha
    exact fresh _ ho'
  · simp [C.len]
  · dsimp only at h
    rcases Nat.lt_trichotomy i σ.hp.length with q | q | q
    · rw [List.getElem?_append_left q] at h
      obtain ⟨a, ob', h1, h2, h3⟩ := C.obs i o' h
      exact ⟨a, ob', prefix_get hle.1 h1, .tail _ h2, h3.mono hle⟩
    · subst q
      simp at h
      subst h
      exact ⟨_, ob, by simp [← C.len], .head _, hr _ hle⟩
    · rw [List.getElem?_eq_none (by simp; omega)] at h
      cases h
  · obtain ⟨u, h1, h2⟩ := C.loc x v h
    exact ⟨u, h1.mono hle, h2.mono fun p hp => .tail _ hp⟩
  · obtain ⟨h1, o', v, h2, h3⟩ := C.cel x c h
    refine ⟨fun hm => ?_, o', v, .tail _ h2, h3⟩
    rcases List.mem_append.mp hm with hm | hm
    · exact h1 hm
    · exact fresh _ h2 (List.mem_singleton.mp hm)


/-- an object joins the abstract heap -/
theorem Core.add {fx : Fx} {σ : St} {W : Wd} {m : Str → Option Value} {news : List (Addr × Obj)} (C : Core fx σ W m news) {a : Addr} {ob : Obj} {o : O} (fresh : ∀ p ∈ news, p.1 ≠ a) (hr : ∀ W', W.le W' → OR W' o a ob) :
    Core fx ⟨σ.loc, σ.hp ++ [o]⟩ ⟨W.al ++ [a], W.tp, W.sc⟩ m ((a, ob) :: news) := by
  have hle : W.le ⟨W.al ++ [a], W.tp, W.sc⟩ := ⟨List.prefix_append _ _, fun _ h => h, rfl⟩
  refine ⟨?_, fun p hp => .tail _ (C.exs p hp), fun p hp hm => ?_, ?_, ?_, fun i o' h => ?_, fun t ht => .tail _ (C.tps t ht), fun x v h => ?_, fun x c h => ?_, C.scc, C.mfx, C.ext⟩
  · rw [List.map_cons, List.nodup_cons]
    refine ⟨fun hm => ?_, C.nd⟩
    obtain ⟨p, hp, e⟩ := List.mem_map.mp hm
    exact fresh p hp e
  · rcases List.mem_append.mp hm with hm | hm
    · exact C.exd p hp hm
    · exact fresh p (C.exs p hp) (List.mem_singleton.mp hm)
  · refine List.nodup_append.mpr ⟨C.aln, by simp, fun b hb b' hb' => ?_⟩
    rw [List.mem_singleton.mp hb']
    obtain ⟨o', ho'⟩ := C.al_lt hb
    exact fresh _ ho'
  · simp [C.len]
  · dsimp only at h
    rcases Nat.lt_trichotomy i σ.hp.length with q | q | q
    · rw [List.getElem?_append_left q] at h
      obtain ⟨b, ob', h1, h2, h3⟩ := C.obs i o' h
      exact ⟨b, ob', prefix_get hle.1 h1, .tail _ h2, h3.mono hle⟩
    · subst q
      simp at h
      subst h
      exact ⟨_, ob, by simp [← C.len], .head _, hr _ hle⟩
    · rw [List.getElem?_eq_none (by simp; omega)] at h
      cases h
  · obtain ⟨u, h1, h2⟩ := C.loc x v h
    exact ⟨u, h1.mono hle, h2.mono fun p hp => .tail _ hp⟩
  · obtain ⟨h1, o', v, h2, h3⟩ := C.cel x c h
    refine ⟨fun hm => ?_, o', v, .tail _ h2, h3⟩
    rcases List.mem_append.mp hm with hm | hm
    · exact h1 hm
    · exact fresh _ h2 (List.mem_singleton.mp hm)

/-- the same, by what a rule of the library gives -/
theorem Rep.addN {fx : Fx} {σ : St} {W : Wd} {s : Shared} (er : s = { fx.s₀ with heap := s.heap, toks := s.toks }) {g : Heap} {m : Str → Option Value} {news : List (Addr × Obj)} (G : KtsTurn (fx.outer.filterMap (·.frame)) fx.h₀ g) (C : Core fx σ W m news) {D : Addr} {ob : Obj} {o : O} {h' : Heap}
    (F' : Fr g fx.L h' m) (N' : News g fx.L h' ((D, ob) :: news)) (fresh : ∀ p ∈ news, p.1 ≠ D) (hr : ∀ W', W.le W' → OR W' o D ob) :
    ∃ W', W.le W' ∧ W'.al[σ.hp.length]? = some D ∧ Rep fx ⟨σ.loc, σ.hp ++ [o]⟩ W' { s with heap := h' } :=
  ⟨⟨W.al ++ [D], W.tp, W.sc⟩, ⟨List.prefix_append _ _, fun _ h => h, rfl⟩, by simp [← C.len], by rw [er], g, m, _, G, F', N', C.add fresh hr⟩

/-- a new tuple -/
theorem Rep.newTup {fx : Fx} {σ : St} {W : Wd} {s : Shared} (R : Rep fx σ W s) (xs : List Value) (tk : Nat) :
    ∃ W', W.le W' ∧ (s.heap.objs.size, xs) ∈ W'.tp ∧ Rep fx σ W' { s with heap := s.heap.push (tupObj xs), toks := tk } := by
  refine R.elim fun e g m news G F N C => ?_
  have hle : W.le ⟨W.al, (s.heap.objs.size, xs) :: W.tp, W.sc⟩ := ⟨List.prefix_refl _, fun _ h => .tail _ h, rfl⟩
  refine ⟨⟨W.al, (s.heap.objs.size, xs) :: W.tp, W.sc⟩, hle, .head _, rest_with e _ _, g, m, (s.heap.objs.size, tupObj xs) :: news, G, F.push _, N.push F _, ?_⟩
  refine ⟨newsNodup N C.nd _, fun p hp => .tail _ (C.exs p hp), C.exd, C.aln, C.len, fun i o h => ?_, fun t ht => ?_, fun x v h => ?_, fun x c h => ?_, C.scc, C.mfx, fun p hp t ht => ?_⟩
  · obtain ⟨a, ob', h1, h2, h3⟩ := C.obs i o h
    exact ⟨a, ob', h1, .tail _ h2, h3.mono hle⟩
  · rcases List.mem_cons.mp ht with rfl | ht
    · exact .head _
    · exact .tail _ (C.tps t ht)
  · obtain ⟨u, h1, h2⟩ := C.loc x v h
    exact ⟨u, h1.mono hle, h2.mono fun p hp => .tail _ hp⟩
  · obtain ⟨h1, o', v, h2, h3⟩ := C.cel x c h
    exact ⟨h1, o', v, .tail _ h2, h3⟩
  · rcases List.mem_cons.mp ht with rfl | ht
    · exact Nat.ne_of_lt (Heap.lt_size (N p (C.exs p hp)).1)
    · exact C.ext p hp t ht

/-- a plain local is stored -/
theorem Rep.setLoc {fx : Fx} {σ : St} {W : Wd} {s : Shared} (R : Rep fx σ W s) {x : Str} {v : V} {u : Value} (hv : VR W v u) (hk : fx.env.kindOf x = some .local) (hL : fx.env.locals = fx.L) (hm : fx.mfix = none)
    (tk : Nat) {h' : Heap} {M : Str → Option Value} (hM : M x = some u) (hM' : ∀ y, y ≠ x → ∀ m, s.heap.Ns fx.L m → M y = m y) (hn : h'.Ns fx.L M) (hs : Heap.SameBut fx.L s.heap h') :
    Rep fx (σ.set x v) W { s with heap := h', toks := tk } := by
  refine R.elim fun e g m news G F N C => ?_
  refine ⟨rest_with e _ _, g, M, news, G, F.set hn hs, N.set hs, ?_⟩
  refine ⟨C.nd, C.exs, C.exd, C.aln, C.len, C.obs, C.tps, fun y w h => ?_, C.cel, C.scc, fun m₀ q => (by rw [hm] at q; cases q), C.ext⟩
  by_cases q : y = x
  · subst q
    simp [St.set, setN] at h
    subst h
    exact ⟨u, hv, .loc hk hL hM⟩
  · simp [St.set, setN, q] at h
    obtain ⟨u', h1, h2⟩ := C.loc y w h
    refine ⟨u', h1, ?_⟩
    cases h2 with
    | loc a b c => exact .loc a b ((hM' y q m F.ns).trans c)
    | comp a b c => exact .comp a b c
    | cell a b c d => exact .cell a b c d

def setL (a : Addr) (ob : Obj) (news : List (Addr × Obj)) : List (Addr × Obj) := news.map fun p => if p.1 = a then (a, ob) else p
theorem setL_keys (a : Addr) (ob : Obj) (news : List (Addr × Obj)) : (setL a ob news).map (·.1) = news.map (·.1) := by
  unfold setL
  rw [List.map_map]
  refine List.map_congr_left fun p _ => ?_
  by_cases q : p.1 = a
  · simp [q]
  · simp [q]
theorem setL_self {a : Addr} {ob ob' : Obj} {news : List (Addr × Obj)} (h : (a, ob) ∈ news) : (a, ob') ∈ setL a ob' news := List.mem_map.mpr ⟨_, h, by simp⟩
theorem setL_ne {a : Addr} {ob' : Obj} {news : List (Addr × Obj)} {p : Addr × Obj} (h : p ∈ news) (q : p.1 ≠ a) : p ∈ setL a ob' news := List.mem_map.mpr ⟨_, h, by simp [q]⟩
theorem mem_setL {a : Addr} {ob' : Obj} {news : List (Addr × Obj)} {p : Addr × Obj} (h : p ∈ setL a ob' news) : (p = (a, ob') ∧ ∃ ob, (a, ob) ∈ news) ∨ (p ∈ news ∧ p.1 ≠ a) := by
  obtain ⟨q, hq, e⟩ := List.mem_map.mp h
  by_cases z : q.1 = a
  · simp [z] at e
    exact .inl ⟨e.symm, q.2, by rw [← z]; exact hq⟩
  · simp [z] at e
    subst e
    exact .inr ⟨hq, z⟩
theorem key_inj {news : List (Addr × Obj)} (nd : (news.map (·.1)).Nodup) {a : Addr} {o o' : Obj} (h : (a, o) ∈ news) (h' : (a, o') ∈ news) : o = o' := by
  induction news with
  | nil => cases h
  | cons p r ih =>
    rw [List.map_cons, List.nodup_cons] at nd
    rcases List.mem_cons.mp h with e | h
    · rcases List.mem_cons.mp h' with e' | h'
      · rw [← e'] at e; cases e; rfl
      · exact absurd (List.mem_map.mpr ⟨_, h', by rw [← e]⟩) nd.1
    · rcases List.mem_cons.mp h' with e' | h'
      · exact absurd (List.mem_map.mpr ⟨_, h, by rw [← e']⟩) nd.1
      · exact ih nd.2 h h'

theorem fr_upd {h₀ h h' : Heap} {L a : Addr} {m : Str → Option Value} {news : List (Addr × Obj)} {ob ob' : Obj} (F : Fr h₀ L h m) (N : News h₀ L h news) (hm : (a, ob) ∈ news)
    (hs : Heap.ExtBut a h h') (hg : h'.get? a = some ob') : Fr h₀ L h' m ∧ News h₀ L h' (setL a ob' news) := by
  have D := N _ hm
  refine ⟨⟨F.ns.extBut hs (Ne.symm D.2.1), fun b o e => hs b o (fun z => ?_) (F.keep b o e), F.above⟩, fun p hp => ?_⟩
  · have := D.2.2; rw [← z, e] at this; cases this
  · rcases mem_setL hp with ⟨rfl, _⟩ | ⟨hp, z⟩
    · exact ⟨hg, D.2⟩
    · exact ⟨hs _ _ z (N p hp).1, (N p hp).2⟩

theorem nodup_idx {α : Type} {l : List α} (nd : l.Nodup) : ∀ {i j : Nat} {a : α}, l[i]? = some a → l[j]? = some a → i = j := by
  induction l with
  | nil => intro i j a h; simp at h
  | cons x r ih =>
    rw [List.nodup_cons] at nd
    intro i j a hi hj
    cases i with
    | zero =>
      cases j with
      | zero => rfl
      | succ j =>
        simp at hi hj
        subst hi
        exact absurd (List.mem_of_getElem? hj) nd.1
    | succ i =>
      cases j with
      | zero =>
        simp at hi hj
        subst hj
        exact absurd (List.mem_of_getElem? hi) nd.1
      | succ j => exact congrArg (· + 1) (ih nd.2 (by simpa using hi) (by simpa using hj))

/-- an object of the abstract heap changes -/
theorem Rep.upd {fx : Fx} {σ : St} {W : Wd} {s : Shared} (R : Rep fx σ W s) {i : Nat} {a : Addr} {o o' : O} {ob' : Obj} (ho : σ.hp[i]? = some o) (ha : W.al[i]? = some a) (hr : OR W o' a ob') (tk : Nat) {h' : Heap}
    (hs : Heap.ExtBut a s.heap h') (hg : h'.get? a = some ob') : Rep fx ⟨σ.loc, σ.hp.set i o'⟩ W { s with heap := h', toks := tk } := by
  refine R.elim fun e g m news G F N C => ?_
  obtain ⟨a', ob, h1, h2, h3⟩ := C.obs i o ho
  rw [ha] at h1
  cases h1
  obtain ⟨F', N'⟩ := fr_upd F N h2 hs hg
  have hin : a ∈ W.al := List.mem_of_getElem? ha
  have other : ∀ p ∈ news, p.1 ≠ a → p ∈ setL a ob' news := fun p hp q => setL_ne hp q
  refine ⟨rest_with e _ _, g, m, setL a ob' news, G, F', N', ?_⟩
  refine ⟨by rw [setL_keys]; exact C.nd, fun p hp => other p (C.exs p hp) fun q => C.exd p hp (q ▸ hin), C.exd, C.aln, by simp [C.len], fun j o₁ h => ?_, fun t ht => other _ (C.tps t ht) fun q => ?_, fun x v h => ?_, fun x c h => ?_, C.scc, C.mfx, C.ext⟩
  · dsimp only at h
    by_cases q : j = i
    · subst q
      have hj : j < σ.hp.length := by
        rcases Nat.lt_or_ge j σ.hp.length with z | z
        · exact z
        · rw [List.getElem?_eq_none z] at ho; cases ho
      rw [List.getElem?_set_self hj] at h
      cases h
      exact ⟨a, ob', ha, setL_self h2, hr⟩
    · rw [List.getElem?_set_ne (Ne.symm q)] at h
      obtain ⟨b, ob₁, k1, k2, k3⟩ := C.obs j o₁ h
      refine ⟨b, ob₁, k1, other _ k2 fun z => q ?_, k3⟩
      dsimp only at z
      subst z
      exact nodup_idx C.aln k1 ha
  · dsimp only at q
    have := C.tps t ht
    rw [q] at this
    have e := key_inj C.nd this h2
    cases h3 with
    | list n r => injection e with e1; simp at e1
    | exn _ q2 => rw [← e] at q2; cases q2
    | tab _ x _ => have := x.1; rw [← e] at this; injection this with this; exact absurd this (by decide)
    | inst _ => injection e with e1; cases e1
    | att x _ => rw [← e] at x; injection x with x; exact absurd x (by decide)
    | dic x => rw [← e] at x; injection x with x; exact absurd x (by decide)
  · obtain ⟨u, k1, k2⟩ := C.loc x v h
    refine ⟨u, k1, ?_⟩
    cases k2 with
    | loc p q r => exact .loc p q r
    | comp p q r => exact .comp p q r
    | cell p q r t => exact .cell p q (other _ r fun z => (C.cel x _ q).1 (by dsimp only at z; rw [z]; exact hin)) t
  · obtain ⟨k1, o₁, v, k2, k3⟩ := C.cel x c h
    exact ⟨k1, o₁, v, other _ k2 fun z => k1 (by dsimp only at z; rw [z]; exact hin), k3⟩


inductive Kd where
  | made | fly | held
/-- an exception within a frame: made there, come from a call, noted there -/
inductive FlyS (B : Heap) (l : List Env) (L e : Addr) (cls : Value) (h : Heap) : Kd → Prop
  | made {oe : Obj} {vs : Array Value} {a0 : Value} : B.StaysIn h → B.get? e = none → h.FunFrames B l → h.get? e = some oe → oe.cls = cls → oe.data = .fields vs → vs[0]? = some a0 → vs[1]? = some .none → FlyS B l L e cls h .made
  | fly {a0 : Value} : Heap.FlyingW B l e cls a0 h → FlyS B l L e cls h .fly
  | held {a0 : Value} : Heap.HeldW B l e cls a0 L h → FlyS B l L e cls h .held

theorem FlyS.stays {B : Heap} {l : List Env} {L e : Addr} {cls : Value} {h : Heap} {k : Kd} (x : FlyS B l L e cls h k) : B.StaysIn h ∧ B.get? e = none := by
  cases x with
  | made a b _ _ _ _ _ _ => exact ⟨a, b⟩
  | fly a => exact ⟨a.1, a.2.1⟩
  | held a => exact ⟨a.1, a.2.1⟩
section
variable {M : Model} {A : Around} {E : Value → Shared → Prop} {s : Shared} {B : Heap} {env : Env} {outer : List Env} {L e : Addr} {cls : Value} {k : Kd}
theorem noteFly {Q : Unit → Shared → Prop} (hfr : A.frames = some (env :: outer)) (hf : env.frame = some L) (x : FlyS B (env :: outer) L e cls s.heap k)
    (h : ∀ h', FlyS B (env :: outer) L e cls h' .held → s.heap.UpToSlots h' → Q () { s with heap := h' }) : wpAny M A (noteFrame (.ref e) env) Q E s := by
  cases x with
  | made x1 x2 x3 x4 x5 x6 x7 x8 =>
    unfold noteFrame
    simp only [hf]
    refine wpAny_bind (wpAny_field x4 x6 x8 ?_)
    rw [if_neg (by decide)]
    refine wpAny_entryW hfr x3 hf x4 x1 x2 x6 (Array.getElem?_eq_some_iff.mp x8).1 x7 fun h' ⟨k1, k2, k3, k4⟩ => h h' (.held ⟨k1, x2, k2, x5 ▸ k3⟩) k4
  | fly x => exact wpAny_looks_onW hfr hf x fun h' hh hs => h h' (.held hh) hs
  | held x => exact wpAny_noteFrame_againW hf x.2.2.2 (h s.heap (.held x) (.refl _))
theorem landFly {Q : Unit → Shared → Prop} {l : List Env} (x : FlyS B l L e cls s.heap .held)
    (h : ∀ h', FlyS B l L e cls h' .fly → s.heap.UpToSlots h' → Q () { s with heap := h' }) : wpAny M A (setFlight (.ref e) none) Q E s := by
  cases x with
  | held x => exact wpAny_landsW x fun h' hh hs => h h' (.fly hh) hs
theorem leaveFly {Q : Unit → Shared → Prop} {L₁ : Addr} (hfr : A.frames = some (env :: outer)) (hf : env.frame = some L) (x : FlyS B (env :: outer) L e cls s.heap k)
    (h : ∀ h', FlyS B outer L₁ e cls h' .fly → s.heap.UpToSlots h' → Q () { s with heap := h' }) : wpAny M A (leaving env (.ref e)) Q E s := by
  unfold leaving
  refine wpAny_bind (noteFly hfr hf x fun h₁ x₁ u₁ => ?_)
  refine landFly x₁ fun h₂ x₂ u₂ => ?_
  cases x₂ with
  | fly y =>
    obtain ⟨k1, k2, ⟨_, _, k3⟩, k4⟩ := y
    exact h h₂ (.fly ⟨k1, k2, k3, k4⟩) (u₁.trans u₂)
theorem setFlightHeld {l : List Env} {a0 : Value} {Q : Unit → Shared → Prop} (R : Heap.HeldW B l e cls a0 L s.heap)
    (h : ∀ h', Heap.HeldW B l e cls a0 L h' → s.heap.UpToSlots h' → Q () { s with heap := h' }) : wpAny M A (setFlight (.ref e) (some L)) Q E s := by
  obtain ⟨r1, r2, r3, oe, vs, T, oT, ts, q1, q2, q3, q4, q5, q6, q7, q8, q9⟩ := R
  have big : 3 < ts.size := (Array.getElem?_eq_some_iff.mp q9).1
  have same : ∀ b, b ≠ T → (s.heap.update T (Obj.mapFields (·.setIfInBounds 3 ((some L).elim Value.none fun f => rawInt f)))).get? b = s.heap.get? b := fun b hb => Heap.get?_update_other _ _ (Ne.symm hb)
  have plain : ∀ b o, s.heap.get? b = some o → (∀ vs, o.data ≠ .fields vs) → b ≠ T := fun b o hb hnf q => hnf ts (by rw [q, q7] at hb; cases hb; exact q8)
  unfold setFlight
  refine wpAny_bind (wpAny_field q1 q3 q4 ?_)
  rw [if_pos (show (Value.ref T != Value.none) = true from by simp)]
  refine wpAny_setField q7 q8 big (h _ ⟨fun b o hb => ?_, r2, r3.of_keeps fun b o hb hnf => ⟨o, (same b (plain b o hb hnf)).trans hb, rfl⟩, ?_⟩ fun b o hb hnf => ⟨o.slots, (same b (plain b o hb hnf)).trans hb⟩)
  · exact (same b fun q => by rw [q, q5] at hb; cases hb).trans (r1 b o hb)
  · exact ⟨oe, vs, T, _, _, (same e (Ne.symm q6)).trans q1, q2, q3, q4, q5, q6, Heap.get?_update_self _ q7 (Obj.isFreed_of_fields (Obj.data_mapFields q8 _)), Obj.data_mapFields q8 _, by simp [big]⟩
theorem notedFly {Q : Value → Shared → Prop} (hfr : A.frames = some (env :: outer)) (hf : env.frame = some L) (x : FlyS B (env :: outer) L e cls s.heap k)
    (h : ∀ h', FlyS B (env :: outer) L e cls h' .held → s.heap.UpToSlots h' → Q (.ref e) { s with heap := h' }) : notedBy M A env (cameBackBy M A env Q) (.ref e) s := by
  unfold notedBy
  refine noteFly hfr hf x fun h₁ x₁ u₁ => ?_
  cases x₁ with
  | held y =>
    unfold cameBackBy
    obtain ⟨_, _, _, oe, vs, T, oT, ts, y1, y2, y3, y4, _⟩ := id y
    refine wpAny_bind (wpAny_field y1 y3 y4 ?_)
    rw [if_neg (show ¬ ((Value.ref T == Value.none) = true) from by simp)]
    rw [hf]
    exact setFlightHeld y fun h₂ x₂ u₂ => h h₂ (.held x₂) (u₁.trans u₂)
end

/-- what holds of a frame in which an exception flies -/
structure XCore (fx : Fx) (σ : St) (W : Wd) (g : Heap) (m : Str → Option Value) (news : List (Addr × Obj)) (B h : Heap) : Prop where
  turn : KtsTurn (fx.outer.filterMap (·.frame)) fx.h₀ g
  dic : KtsDicts (fx.outer.filterMap (·.frame)) g
  size : g.objs.size ≤ fx.L
  ns : h.Ns fx.L m
  gB : ∀ b o, g.get? b = some o → b ∉ (fx.fenv :: fx.outer).filterMap (·.frame) → B.get? b = some o
  fr : ∀ b o, g.get? b = some o → ∃ sl, h.get? b = some { o with slots := sl }
  nw : ∀ p ∈ news, B.get? p.1 = some p.2 ∧ p.1 ≠ fx.L ∧ g.get? p.1 = none
  core : Core fx σ W m news
  base : fx.base.StaysIn B

theorem mem_frames {env : Env} {outer : List Env} {L b : Addr} (hf : env.frame = some L) (hm : b ∈ (env :: outer).filterMap (·.frame)) : b = L ∨ b ∈ outer.filterMap (·.frame) := by
  obtain ⟨env', he, hf'⟩ := List.mem_filterMap.mp hm
  rcases List.mem_cons.mp he with rfl | he
  · rw [hf] at hf'
    exact .inl (Option.some.inj hf').symm
  · exact .inr (List.mem_filterMap.mpr ⟨env', he, hf'⟩)
theorem ground_self {g : Heap} {L : Addr} (h : g.objs.size ≤ L) : g.get? L = none := by
  cases q : g.get? L with
  | none => rfl
  | some o => exact absurd (Nat.lt_of_lt_of_le (Heap.lt_size q) h) (Nat.lt_irrefl _)
theorem XCore.up {fx : Fx} {σ : St} {W : Wd} {g B h h' : Heap} {m : Str → Option Value} {news : List (Addr × Obj)} (x : XCore fx σ W g m news B h) (hf : fx.fenv.frame = some fx.L) (st : B.StaysIn h') (u : h.UpToSlots h') : XCore fx σ W g m news B h' :=
  ⟨x.turn, x.dic, x.size, u.ns x.ns, x.gB, fun b o e => by
    by_cases q : b ∈ (fx.fenv :: fx.outer).filterMap (·.frame)
    · rcases mem_frames hf q with z | z
      · rw [z, ground_self x.size] at e
        cases e
      · obtain ⟨o', es, n, e1, e2⟩ := x.dic b z
        rw [e] at e1
        cases e1
        obtain ⟨sl, e3⟩ := x.fr b o e
        obtain ⟨sl', e4⟩ := u b { o with slots := sl } e3 fun vs y => by rw [show ({ o with slots := sl } : Obj).data = o.data from rfl, e2] at y; cases y
        exact ⟨sl', e4⟩
    · exact ⟨o.slots, st b o (x.gB b o e q)⟩, x.nw, x.core, x.base⟩

structure XRep (fx : Fx) (σ : St) (W : Wd) (e : Addr) (cls : Value) (k : Kd) (s : Shared) : Prop where
  rest : s = { fx.s₀ with heap := s.heap, toks := s.toks }
  more : ∃ g m news B, XCore fx σ W g m news B s.heap ∧ FlyS B (fx.fenv :: fx.outer) fx.L e cls s.heap k

section
variable {M : Model} {A : Around} {E : Value → Shared → Prop} {s : Shared} {fx : Fx} {σ : St} {W : Wd} {e : Addr} {cls : Value} {k : Kd}
theorem rest_heap {s s₀ : Shared} (e : s = { s₀ with heap := s.heap, toks := s.toks }) (h : Heap) : ({ s with heap := h } : Shared) = { s₀ with heap := h, toks := s.toks } := by
  rw [e]
theorem XRep.noted {Q : Value → Shared → Prop} (x : XRep fx σ W e cls k s) (hfr : A.frames = some (fx.fenv :: fx.outer)) (hf : fx.fenv.frame = some fx.L)
    (h : ∀ h', XRep fx σ W e cls .held { s with heap := h' } → Q (.ref e) { s with heap := h' }) : notedBy M A fx.fenv (cameBackBy M A fx.fenv Q) (.ref e) s := by
  obtain ⟨r, g, m, news, B, c, f⟩ := x
  exact notedFly hfr hf f fun h' f' u => h h' ⟨rest_heap r _, g, m, news, B, c.up hf f'.stays.1 u, f'⟩
end

end Mine

set_option autoImplicit false
namespace Mine
open PySem PySem.W PySem.Calls PySem.Spec PyProof.Rows

abbrev XP := Value → St → Prop

def PV (fx : Fx) (W : Wd) (Q : V → St → Prop) : Value → Shared → Prop := fun u s' => ∃ W' σ' v, W.le W' ∧ Rep fx σ' W' s' ∧ VR W' v u ∧ Q v σ'
def PX (fx : Fx) (W : Wd) (X : XP) : Value → Shared → Prop := fun u s => ∃ e cls k W' σ', u = .ref e ∧ W.le W' ∧ XRep fx σ' W' e cls k s ∧ X cls σ'
def PVs (fx : Fx) (W : Wd) (Q : List V → St → Prop) : List Value → Shared → Prop := fun us s' => ∃ W' σ' vs, W.le W' ∧ Rep fx σ' W' s' ∧ VRs W' vs us ∧ Q vs σ'
def PB (fx : Fx) (W : Wd) (Q : Bool → St → Prop) : Bool → Shared → Prop := fun b s' => ∃ W' σ', W.le W' ∧ Rep fx σ' W' s' ∧ Q b σ'
def PU (fx : Fx) (W : Wd) (Q : St → Prop) : Unit → Shared → Prop := fun _ s' => ∃ W' σ', W.le W' ∧ Rep fx σ' W' s' ∧ Q σ'

theorem PV.elim {fx : Fx} {W : Wd} {Q : V → St → Prop} {u : Value} {s : Shared} {P : Prop} (x : PV fx W Q u s) (k : ∀ W' σ' v, W.le W' → Rep fx σ' W' s → VR W' v u → Q v σ' → P) : P := by
  obtain ⟨W', σ', v, a, b, c, d⟩ := x
  exact k W' σ' v a b c d
theorem PVs.elim {fx : Fx} {W : Wd} {Q : List V → St → Prop} {u : List Value} {s : Shared} {P : Prop} (x : PVs fx W Q u s) (k : ∀ W' σ' v, W.le W' → Rep fx σ' W' s → VRs W' v u → Q v σ' → P) : P := by
  obtain ⟨W', σ', v, a, b, c, d⟩ := x
  exact k W' σ' v a b c d
theorem PB.elim {fx : Fx} {W : Wd} {Q : Bool → St → Prop} {u : Bool} {s : Shared} {P : Prop} (x : PB fx W Q u s) (k : ∀ W' σ', W.le W' → Rep fx σ' W' s → Q u σ' → P) : P := by
  obtain ⟨W', σ', a, b, c⟩ := x
  exact k W' σ' a b c
theorem PU.elim {fx : Fx} {W : Wd} {Q : St → Prop} {u : Unit} {s : Shared} {P : Prop} (x : PU fx W Q u s) (k : ∀ W' σ', W.le W' → Rep fx σ' W' s → Q σ' → P) : P := by
  obtain ⟨W', σ', a, b, c⟩ := x
  exact k W' σ' a b c
theorem PV.mono {fx : Fx} {W W' : Wd} {Q Q' : V → St → Prop} (h : W.le W') (hq : ∀ v σ, Q v σ → Q' v σ) {u : Value} {s : Shared} : PV fx W' Q u s → PV fx W Q' u s := by
  rintro ⟨W₁, σ, v, a, b, c, d⟩
  exact ⟨W₁, σ, v, h.trans a, b, c, hq _ _ d⟩
theorem PX.mono {fx : Fx} {W W' : Wd} {X X' : XP} (h : W.le W') (hx : ∀ c hp, X c hp → X' c hp) {u : Value} {s : Shared} : PX fx W' X u s → PX fx W X' u s := by
  rintro ⟨e, cls, k, W₁, σ, a, b, c, d⟩
  exact ⟨e, cls, k, W₁, σ, a, h.trans b, c, hx _ _ d⟩
/-- no exception -/
def X0 : XP := fun _ _ => False
theorem PX.never {fx : Fx} {W : Wd} {u : Value} {s : Shared} : PX fx W X0 u s → False := by
  rintro ⟨_, _, _, _, _, _, _, _, d⟩
  exact d
theorem PVs.mono {fx : Fx} {W W' : Wd} {Q Q' : List V → St → Prop} (h : W.le W') (hq : ∀ v σ, Q v σ → Q' v σ) {u : List Value} {s : Shared} : PVs fx W' Q u s → PVs fx W Q' u s := by
  rintro ⟨W₁, σ, v, a, b, c, d⟩
  exact ⟨W₁, σ, v, h.trans a, b, c, hq _ _ d⟩
theorem PB.mono {fx : Fx} {W W' : Wd} {Q Q' : Bool → St → Prop} (h : W.le W') (hq : ∀ v σ, Q v σ → Q' v σ) {u : Bool} {s : Shared} : PB fx W' Q u s → PB fx W Q' u s := by
  rintro ⟨W₁, σ, a, b, d⟩
  exact ⟨W₁, σ, h.trans a, b, hq _ _ d⟩
/-- an expression's run -/
def EvE (fx : Fx) (X : XP) (e : Expr) (σ : St) (Q : V → St → Prop) : Prop := ∀ W s, Rep fx σ W s → wpAny fx.M fx.A (eval e fx.env) (PV fx W Q) (PX fx W X) s
/-- the elements of a display, the arguments of a call -/
def EvEs (fx : Fx) (X : XP) (es : List Expr) (σ : St) (Q : List V → St → Prop) : Prop :=
  ∀ W s pos, Rep fx σ W s → wpAny fx.M fx.A (spliced (backTo pos (starEach es fx.env))) (PVs fx W Q) (PX fx W X) s
def EvB (fx : Fx) (X : XP) (e : Expr) (σ : St) (Q : Bool → St → Prop) : Prop := ∀ W s, Rep fx σ W s → wpAny fx.M fx.A (isTrue e fx.env (eval e fx.env)) (PB fx W Q) (PX fx W X) s

section
variable {fx : Fx} {X : XP} {σ : St}

theorem EvE.mono {e : Expr} {Q Q' : V → St → Prop} (h : EvE fx X e σ Q) (hq : ∀ v σ', Q v σ' → Q' v σ') : EvE fx X e σ Q' :=
  fun W s R => wpAny_mono (h W s R) (fun _ _ x => x.mono (.refl _) hq) fun _ _ x => x
theorem EvEs.mono {e : List Expr} {Q Q' : List V → St → Prop} (h : EvEs fx X e σ Q) (hq : ∀ v σ', Q v σ' → Q' v σ') : EvEs fx X e σ Q' :=
  fun W s p R => wpAny_mono (h W s p R) (fun _ _ x => x.mono (.refl _) hq) fun _ _ x => x
theorem EvB.mono {e : Expr} {Q Q' : Bool → St → Prop} (h : EvB fx X e σ Q) (hq : ∀ v σ', Q v σ' → Q' v σ') : EvB fx X e σ Q' :=
  fun W s R => wpAny_mono (h W s R) (fun _ _ x => x.mono (.refl _) hq) fun _ _ x => x

theorem PV.here {Q : V → St → Prop} {W : Wd} {s : Shared} {v : V} {u : Value} (R : Rep fx σ W s) (r : VR W v u) (q : Q v σ) : PV fx W Q u s := ⟨W, σ, v, .refl _, R, r, q⟩
theorem PB.here {Q : Bool → St → Prop} {W : Wd} {s : Shared} {b : Bool} (R : Rep fx σ W s) (q : Q b σ) : PB fx W Q b s := ⟨W, σ, .refl _, R, q⟩

theorem evConstInt {i : Int} {k : Nat} {pos : Pos} {Q : V → St → Prop} (h : Q (.int i) σ) : EvE fx X (.Constant (.int i) k pos) σ Q :=
  fun _ _ R => wpAny_Constant_int (.here (R.toks _) (.int _ _) h)
theorem evConstNone {k : Nat} {pos : Pos} {Q : V → St → Prop} (h : Q .none σ) : EvE fx X (.Constant .none k pos) σ Q :=
  fun _ _ R => Constant_none (.here R .none h)

/-- the frame's own facts -/
structure FxOk (fx : Fx) : Prop where
  kind : fx.env.scope.kind = .function
  handled : fx.qt = true → fx.A.handled = none

theorem evName (ok : FxOk fx) {x : Str} {pos : Pos} {v : V} {Q : V → St → Prop} (hv : σ.loc x = some v) (h : Q v σ) (hd : (x == ("__debug__" : Str)) = false) (hc : (x == ("__classdict__" : Str)) = false) :
    EvE fx X (.Name x pos) σ Q := by
  intro W s R
  obtain ⟨_, g, m, news, G, F, N, C⟩ := id R
  obtain ⟨u, r, n⟩ := C.loc x v hv
  refine wpAny_Name ?_ hd
  cases n with
  | loc a b c => exact wpAny_loadName_local ok.kind a (by rw [b]; exact F.ns) c (.here R r h)
  | @comp o a b c =>
    obtain ⟨es, ep, c1, c2, c3⟩ := c
    exact wpAny_loadName_local (m := nsFind es) ok.kind a ⟨o, es, ep, (N _ (C.exs _ b)).1, c1, c2, fun _ => rfl⟩ c3 (.here R r h)
  | @cell c o a b d e =>
    rcases a with a | a
    · exact wpAny_loadName_cell ok.kind a b ⟨o, N.get d, e⟩ (.here R r h)
    · exact wpAny_loadName_free ok.kind a b ⟨o, N.get d, e⟩ (.here R r h) hc

def BinT (fx : Fx) (X : XP) (op : Operator) (a b : V) (σ : St) (Q : V → St → Prop) : Prop :=
  ∀ W s u₁ u₂, Rep fx σ W s → VR W a u₁ → VR W b u₂ → wpAny fx.M fx.A (binaryOp op u₁ u₂) (PV fx W Q) (PX fx W X) s
theorem evBin {l r : Expr} {op : Operator} {pos : Pos} {Q : V → St → Prop} (h : EvE fx X l σ (fun a σ₁ => EvE fx X r σ₁ (fun b σ₂ => BinT fx X op a b σ₂ Q))) : EvE fx X (.BinOp l op r pos) σ Q := by
  intro W s R
  refine wpAny_BinOp (wpAny_mono (h W s R) ?_ fun _ _ x => x)
  refine fun u₁ s₁ zz => zz.elim fun W₁ σ₁ a le₁ R₁ r₁ h₁ => ?_
  refine wpAny_mono (h₁ W₁ s₁ R₁) ?_ fun _ _ x => x.mono le₁ fun _ _ y => y
  refine fun u₂ s₂ zz => zz.elim fun W₂ σ₂ b le₂ R₂ r₂ h₂ => ?_
  exact wpAny_mono (h₂ W₂ s₂ u₁ u₂ R₂ (r₁.mono le₂) r₂) (fun _ _ x => x.mono (le₁.trans le₂) fun _ _ y => y) fun _ _ x => x.mono (le₁.trans le₂) fun _ _ y => y

def TruT (fx : Fx) (X : XP) (a : V) (σ : St) (Q : Bool → St → Prop) : Prop :=
  ∀ W s u, Rep fx σ W s → VR W a u → wpAny fx.M fx.A (truthy u) (PB fx W Q) (PX fx W X) s

theorem evAnd {e₁ e₂ : Expr} {rest : List Expr} {pos : Pos} {Q : V → St → Prop}
    (h : EvE fx X e₁ σ (fun v σ₁ => TruT fx X v σ₁ (fun c σ₂ => if c then EvE fx X (.BoolOp .And (e₂ :: rest) pos) σ₂ Q else Q v σ₂))) : EvE fx X (.BoolOp .And (e₁ :: e₂ :: rest) pos) σ Q := by
  intro W s R
  refine BoolOp_and (wpAny_mono (h W s R) ?_ fun _ _ x => x)
  refine fun u₁ s₁ zz => zz.elim fun W₁ σ₁ a le₁ R₁ r₁ h₁ => ?_
  refine wpAny_mono (h₁ W₁ s₁ u₁ R₁ r₁) ?_ fun _ _ x => x.mono le₁ fun _ _ y => y
  refine fun c s₂ zz => zz.elim fun W₂ σ₂ le₂ R₂ h₂ => ?_
  cases c with
  | true => exact wpAny_mono (h₂ W₂ s₂ R₂) (fun _ _ x => x.mono (le₁.trans le₂) fun _ _ y => y) fun _ _ x => x.mono (le₁.trans le₂) fun _ _ y => y
  | false => exact ⟨W₂, σ₂, a, le₁.trans le₂, R₂, r₁.mono le₂, h₂⟩
theorem evBoolOne {op : BoolOp} {e : Expr} {pos : Pos} {Q : V → St → Prop} (h : EvE fx X e σ Q) : EvE fx X (.BoolOp op [e] pos) σ Q := fun W s R => BoolOp_one (h W s R)

def CmpT (fx : Fx) (X : XP) (op : CmpOp) (a b : V) (σ : St) (Q : V → St → Prop) : Prop :=
  ∀ W s u₁ u₂, Rep fx σ W s → VR W a u₁ → VR W b u₂ → wpAny fx.M fx.A (compareOp op u₁ u₂) (PV fx W Q) (PX fx W X) s
theorem evCmp1 {l r : Expr} {op : CmpOp} {pos : Pos} {Q : V → St → Prop} (h : EvE fx X l σ (fun a σ₁ => EvE fx X r σ₁ (fun b σ₂ => CmpT fx X op a b σ₂ Q))) (hm : behindInMarks op r = false) : EvE fx X (.Compare l [op] [r] pos) σ Q := by
  intro W s R
  refine wpAny_Compare1 (wpAny_mono (h W s R) ?_ fun _ _ x => x) hm
  refine fun u₁ s₁ zz => zz.elim fun W₁ σ₁ a le₁ R₁ r₁ h₁ => ?_
  refine wpAny_mono (h₁ W₁ s₁ R₁) ?_ fun _ _ x => x.mono le₁ fun _ _ y => y
  refine fun u₂ s₂ zz => zz.elim fun W₂ σ₂ b le₂ R₂ r₂ h₂ => ?_
  exact wpAny_mono (h₂ W₂ s₂ u₁ u₂ R₂ (r₁.mono le₂) r₂) (fun _ _ x => x.mono (le₁.trans le₂) fun _ _ y => y) fun _ _ x => x.mono (le₁.trans le₂) fun _ _ y => y
theorem evB_cmp1 {l r : Expr} {op : CmpOp} {pos : Pos} {Q : Bool → St → Prop} (h : EvE fx X l σ (fun a σ₁ => EvE fx X r σ₁ (fun b σ₂ => CmpT fx X op a b σ₂ (fun c σ₃ => TruT fx X c σ₃ Q)))) (hm : behindInMarks op r = false) : EvB fx X (.Compare l [op] [r] pos) σ Q := by
  intro W s R
  refine wpAny_isTrue_Compare1 (wpAny_mono (h W s R) ?_ fun _ _ x => x) hm
  refine fun u₁ s₁ zz => zz.elim fun W₁ σ₁ a le₁ R₁ r₁ h₁ => ?_
  refine wpAny_mono (h₁ W₁ s₁ R₁) ?_ fun _ _ x => x.mono le₁ fun _ _ y => y
  refine fun u₂ s₂ zz => zz.elim fun W₂ σ₂ b le₂ R₂ r₂ h₂ => ?_
  refine wpAny_mono (h₂ W₂ s₂ u₁ u₂ R₂ (r₁.mono le₂) r₂) ?_ fun _ _ x => x.mono (le₁.trans le₂) fun _ _ y => y
  refine fun u₃ s₃ zz => zz.elim fun W₃ σ₃ c le₃ R₃ r₃ h₃ => ?_
  exact wpAny_mono (h₃ W₃ s₃ u₃ R₃ r₃) (fun _ _ x => x.mono ((le₁.trans le₂).trans le₃) fun _ _ y => y) fun _ _ x => x.mono ((le₁.trans le₂).trans le₃) fun _ _ y => y

theorem evB_or_nil {pos : Pos} {Q : Bool → St → Prop} (h : Q false σ) : EvB fx X (.BoolOp .Or [] pos) σ Q := fun _ _ R => isTrue_or_nil (.here R h)
theorem evB_or {e : Expr} {rest : List Expr} {pos : Pos} {Q : Bool → St → Prop} (h : EvB fx X e σ (fun c σ₁ => if c then Q true σ₁ else EvB fx X (.BoolOp .Or rest pos) σ₁ Q)) : EvB fx X (.BoolOp .Or (e :: rest) pos) σ Q := by
  intro W s R
  refine isTrue_or (wpAny_mono (h W s R) ?_ fun _ _ x => x)
  refine fun c s₁ zz => zz.elim fun W₁ σ₁ le₁ R₁ h₁ => ?_
  cases c with
  | false => exact wpAny_mono (h₁ W₁ s₁ R₁) (fun _ _ x => x.mono le₁ fun _ _ y => y) fun _ _ x => x.mono le₁ fun _ _ y => y
  | true => exact ⟨W₁, σ₁, le₁, R₁, h₁⟩
theorem evB_plain {e : Expr} {Q : Bool → St → Prop} (h : EvE fx X e σ (fun v σ₁ => TruT fx X v σ₁ Q)) (he : ∀ env whole, isTrue e env whole = (do let v ← whole; standAt e.pos; holding [v] (truthy v))) : EvB fx X e σ Q := by
  intro W s R
  refine isTrue_plain (wpAny_mono (h W s R) ?_ fun _ _ x => x) (he _ _)
  refine fun u₁ s₁ zz => zz.elim fun W₁ σ₁ a le₁ R₁ r₁ h₁ => ?_
  exact wpAny_mono (h₁ W₁ s₁ u₁ R₁ r₁) (fun _ _ x => x.mono le₁ fun _ _ y => y) fun _ _ x => x.mono le₁ fun _ _ y => y

/-- arguments and elements -/
theorem evEs_nil {Q : List V → St → Prop} (h : Q [] σ) : EvEs fx X [] σ Q := fun W _ _ R => spliced_none ⟨W, σ, [], .refl _, R, .nil, h⟩
theorem evEs_cons {e : Expr} {rest : List Expr} {Q : List V → St → Prop} (h : EvE fx X e σ (fun v σ₁ => EvEs fx X rest σ₁ (fun vs σ₂ => Q (v :: vs) σ₂))) (hs : ∀ env, starEach (e :: rest) env = (false, eval e env) :: starEach rest env) : EvEs fx X (e :: rest) σ Q := by
  intro W s pos R
  refine spliced_more (wpAny_mono (h W s R) ?_ fun _ _ x => x) (hs _)
  refine fun u₁ s₁ zz => zz.elim fun W₁ σ₁ a le₁ R₁ r₁ h₁ => ?_
  refine wpAny_mono (h₁ W₁ s₁ pos R₁) ?_ fun _ _ x => x.mono le₁ fun _ _ y => y
  refine fun us s₂ zz => zz.elim fun W₂ σ₂ vs le₂ R₂ r₂ h₂ => ?_
  exact ⟨W₂, σ₂, a :: vs, le₁.trans le₂, R₂, .cons (r₁.mono le₂) r₂, h₂⟩

theorem evTuple {es : List Expr} {k : Nat} {pos : Pos} {Q : V → St → Prop} (h : EvEs fx X es σ (fun vs σ₁ => vs.length ≤ sizeLine ∧ Q (.tup vs) σ₁)) : EvE fx X (.Tuple es k pos) σ Q := by
  intro W s R
  refine Tuple_ (wpAny_mono (h W s pos R) ?_ fun _ _ x => x)
  rintro us s₁ ⟨W₁, σ₁, vs, le₁, R₁, r₁, h₁, h₂⟩
  obtain ⟨W₂, le₂, hm, R₂⟩ := R₁.newTup us s₁.toks
  exact wpAny_newObj_type ⟨W₂, σ₁, .tup vs, le₁.trans le₂, R₂, .tup hm (r₁.mono le₂), h₂⟩ (by show us.toArray.size ≤ sizeLine; rw [List.size_toArray, ← r₁.length]; exact h₁)
theorem evList {es : List Expr} {pos : Pos} {Q : V → St → Prop} (h : EvEs fx X es σ (fun vs σ₁ => vs.length ≤ sizeLine ∧ Q (.ref σ₁.hp.length) ⟨σ₁.loc, σ₁.hp ++ [.list vs]⟩)) : EvE fx X (.List es pos) σ Q := by
  intro W s R
  refine List_ (wpAny_mono (h W s pos R) ?_ fun _ _ x => x)
  rintro us s₁ ⟨W₁, σ₁, vs, le₁, R₁, r₁, h₁, h₂⟩
  obtain ⟨W₂, le₂, hm, R₂⟩ := R₁.alloc (o := .list vs) (ob := listObj us 0) s₁.toks rfl fun W' le => .list 0 (r₁.mono le)
  refine wpAny_newObj_type ⟨W₂, _, .ref σ₁.hp.length, le₁.trans le₂, R₂, .ref ?_, h₂⟩ (by show us.toArray.size ≤ sizeLine; rw [List.size_toArray, ← r₁.length]; exact h₁)
  refine R₁.elim fun _ g m news G F N C => ?_
  rw [hm, ← C.len]
  simp
end
end Mine

set_option autoImplicit false
namespace Mine
open PySem PySem.W PySem.Calls PySem.Spec PyProof.Rows

def Fx.pushL (fx : Fx) (ps : List (Addr × Obj)) : Fx := { fx with ex := ps ++ fx.ex }

structure ExOk (fx : Fx) (ps : List (Addr × Obj)) : Prop where
  nd : (ps.map (·.1)).Nodup
  dis : ∀ p ∈ fx.ex, p.1 ∉ ps.map (·.1)
  cel : ∀ x c, fx.env.cells.lookup x = some c → c ∉ ps.map (·.1)
  loc : fx.env.locals ∉ ps.map (·.1)

theorem mem_keys {ps : List (Addr × Obj)} {a : Addr} (h : a ∈ ps.map (·.1)) : ∃ o, (a, o) ∈ ps := by
  obtain ⟨p, hp, rfl⟩ := List.mem_map.mp h
  exact ⟨p.2, hp⟩

theorem nodup_filter_keys {news : List (Addr × Obj)} (nd : (news.map (·.1)).Nodup) (f : Addr × Obj → Bool) : ((news.filter f).map (·.1)).Nodup :=
  (List.filter_sublist.map _).nodup nd

/-- the frame's own things change, the rest stays -/
theorem Rep.exSwap {fx : Fx} {σ : St} {W : Wd} {s : Shared} {ps : List (Addr × Obj)} (R : Rep (fx.pushL ps) σ W s) (ok : ExOk fx ps) (ps' : List (Addr × Obj)) (hk : ps'.map (·.1) = ps.map (·.1)) (tk : Nat) {h' : Heap}
    (hs : ∀ b o, b ∉ ps.map (·.1) → s.heap.get? b = some o → h'.get? b = some o) (hg : ∀ p ∈ ps', h'.get? p.1 = some p.2) : Rep (fx.pushL ps') σ W { s with heap := h', toks := tk } := by
  refine R.elim fun e g m news G F N C => ?_
  have hpn : ∀ p ∈ ps, p ∈ news := fun p hp => C.exs p (List.mem_append_left _ hp)
  have hin : ∀ a ∈ ps.map (·.1), a ≠ fx.L ∧ g.get? a = none := fun a ha => by
    obtain ⟨o, ho⟩ := mem_keys ha
    exact (N _ (hpn _ ho)).2
  have hL : fx.L ∉ ps.map (·.1) := fun q => (hin _ q).1 rfl
  have hal : ∀ a ∈ W.al, a ∉ ps.map (·.1) := fun a ha q => by
    obtain ⟨o, ho⟩ := mem_keys q
    exact C.exd _ (List.mem_append_left _ ho) ha
  let f : Addr × Obj → Bool := fun p => decide (p.1 ∉ ps.map (·.1))
  have keepM : ∀ p ∈ news, p.1 ∉ ps.map (·.1) → p ∈ ps' ++ news.filter f := fun p hp q => List.mem_append_right _ (List.mem_filter.mpr ⟨hp, by simpa [f] using q⟩)
  refine ⟨rest_with e _ _, g, m, ps' ++ news.filter f, G, ⟨F.ns.at' fun o q => hs _ o hL q, fun b o q => hs b o (fun z => ?_) (F.keep b o q), F.above⟩, fun p hp => ?_, ?_⟩
  · have := (hin b z).2
    rw [show g.get? b = some o from q] at this; cases this
  · rcases List.mem_append.mp hp with hp | hp
    · exact ⟨hg p hp, hin p.1 (hk ▸ List.mem_map_of_mem hp)⟩
    · obtain ⟨h1, h2⟩ := List.mem_filter.mp hp
      exact ⟨hs _ _ (by simpa [f] using h2) (N p h1).1, (N p h1).2⟩
  refine ⟨?_, fun p hp => ?_, fun p hp => ?_, C.aln, C.len, fun i o h => ?_, fun t ht' => ?_, fun x v h => ?_, fun x c h => ?_, C.scc, C.mfx, fun p hp t ht' => ?_⟩
  · rw [List.map_append]
    refine List.nodup_append.mpr ⟨hk ▸ ok.nd, nodup_filter_keys C.nd f, fun a ha b hb q => ?_⟩
    rw [hk] at ha
    obtain ⟨p, hp, rfl⟩ := List.mem_map.mp hb
    have := (List.mem_filter.mp hp).2
    simp only [f, decide_eq_true_eq] at this
    exact this (q ▸ ha)
  · rcases List.mem_append.mp hp with hp | hp
    · exact List.mem_append_left _ hp
    · exact keepM p (C.exs p (List.mem_append_right _ hp)) (ok.dis p hp)
  · rcases List.mem_append.mp hp with hp | hp
    · exact fun q => hal _ q (hk ▸ List.mem_map_of_mem hp)
    · exact C.exd p (List.mem_append_right _ hp)
  · obtain ⟨a, ob, h1, h2, h3⟩ := C.obs i o h
    exact ⟨a, ob, h1, keepM _ h2 (hal a (List.mem_of_getElem? h1)), h3⟩
  · refine keepM _ (C.tps t ht') fun q => ?_
    obtain ⟨o, ho⟩ := mem_keys q
    exact C.ext _ (List.mem_append_left _ ho) t ht' rfl
  · obtain ⟨u, h1, h2⟩ := C.loc x v h
    refine ⟨u, h1, ?_⟩
    cases h2 with
    | loc a b c => exact .loc a b c
    | @comp o a b c =>
      refine .comp (o := o) a (List.mem_append_right _ ?_) c
      rcases List.mem_append.mp b with b | b
      · exact absurd (List.mem_map_of_mem (f := (·.1)) b) ok.loc
      · exact b
    | cell a b c d => exact .cell a b (keepM _ c (ok.cel x _ b)) d
  · obtain ⟨h1, o, v, h2, h3⟩ := C.cel x c h
    exact ⟨h1, o, v, keepM _ h2 (ok.cel x c h), h3⟩
  · rcases List.mem_append.mp hp with hp | hp
    · obtain ⟨o, ho⟩ := mem_keys (ps := ps) (a := p.1) (by rw [← hk]; exact List.mem_map_of_mem (f := (·.1)) hp)
      exact C.ext _ (List.mem_append_left _ ho) t ht'
    · exact C.ext p (List.mem_append_right _ hp) t ht'

theorem Rep.exDrop {fx : Fx} {σ : St} {W : Wd} {s : Shared} {ps : List (Addr × Obj)} (R : Rep (fx.pushL ps) σ W s) (ok : ExOk fx ps) (tk : Nat) {h' : Heap}
    (hs : ∀ b o, b ∉ ps.map (·.1) → s.heap.get? b = some o → h'.get? b = some o) : Rep fx σ W { s with heap := h', toks := tk } := by
  refine R.elim fun e g m news G F N C => ?_
  have hpn : ∀ p ∈ ps, p ∈ news := fun p hp => C.exs p (List.mem_append_left _ hp)
  have hin : ∀ a ∈ ps.map (·.1), a ≠ fx.L ∧ g.get? a = none := fun a ha => by
    obtain ⟨o, ho⟩ := mem_keys ha
    exact (N _ (hpn _ ho)).2
  have hL : fx.L ∉ ps.map (·.1) := fun q => (hin _ q).1 rfl
  have hal : ∀ a ∈ W.al, a ∉ ps.map (·.1) := fun a ha q => by
    obtain ⟨o, ho⟩ := mem_keys q
    exact C.exd _ (List.mem_append_left _ ho) ha
  let f : Addr × Obj → Bool := fun p => decide (p.1 ∉ ps.map (·.1))
  have keepM : ∀ p ∈ news, p.1 ∉ ps.map (·.1) → p ∈ news.filter f := fun p hp q => List.mem_filter.mpr ⟨hp, by simpa [f] using q⟩
  refine ⟨rest_with e _ _, g, m, news.filter f, G, ⟨F.ns.at' fun o q => hs _ o hL q, fun b o q => hs b o (fun z => ?_) (F.keep b o q), F.above⟩, fun p hp => ?_, ?_⟩
  · have := (hin b z).2
    rw [show g.get? b = some o from q] at this; cases this
  · obtain ⟨h1, h2⟩ := List.mem_filter.mp hp
    exact ⟨hs _ _ (by simpa [f] using h2) (N p h1).1, (N p h1).2⟩
  refine ⟨nodup_filter_keys C.nd f, fun p hp => keepM p (C.exs p (List.mem_append_right _ hp)) (ok.dis p hp), fun p hp => C.exd p (List.mem_append_right _ hp), C.aln, C.len, fun i o h => ?_, fun t ht' => ?_, fun x v h => ?_, fun x c h => ?_, C.scc, C.mfx, fun p hp t ht' => C.ext p (List.mem_append_right _ hp) t ht'⟩
  · obtain ⟨a, ob, h1, h2, h3⟩ := C.obs i o h
    exact ⟨a, ob, h1, keepM _ h2 (hal a (List.mem_of_getElem? h1)), h3⟩
  · refine keepM _ (C.tps t ht') fun q => ?_
    obtain ⟨o, ho⟩ := mem_keys q
    exact C.ext _ (List.mem_append_left _ ho) t ht' rfl
  · obtain ⟨u, h1, h2⟩ := C.loc x v h
    refine ⟨u, h1, ?_⟩
    cases h2 with
    | loc a b c => exact .loc a b c
    | @comp o a b c =>
      refine .comp (o := o) a ?_ c
      rcases List.mem_append.mp b with b | b
      · exact absurd (List.mem_map_of_mem (f := (·.1)) b) ok.loc
      · exact b
    | cell a b c d => exact .cell a b (keepM _ c (ok.cel x _ b)) d
  · obtain ⟨h1, o, v, h2, h3⟩ := C.cel x c h
    exact ⟨h1, o, v, keepM _ h2 (ok.cel x c h), h3⟩

theorem Rep.exPush {fx : Fx} {σ : St} {W : Wd} {s : Shared} (R : Rep fx σ W s) (ps : List (Addr × Obj)) (nd : (ps.map (·.1)).Nodup) (tk : Nat) {h' : Heap}
    (hs : ∀ b o, s.heap.get? b = some o → h'.get? b = some o) (hf : ∀ p ∈ ps, s.heap.objs.size ≤ p.1) (hg : ∀ p ∈ ps, h'.get? p.1 = some p.2) (hl : ∃ o, s.heap.get? fx.env.locals = some o) :
    Rep (fx.pushL ps) σ W { s with heap := h', toks := tk } ∧ ExOk fx ps := by
  refine R.elim fun e g m news G F N C => ?_
  have old : ∀ a o, s.heap.get? a = some o → a ∉ ps.map (·.1) := fun a o h q => by
    obtain ⟨o', ho⟩ := mem_keys q
    exact Nat.not_lt.mpr (hf _ ho) (Heap.lt_size h)
  have oldN : ∀ p ∈ news, p.1 ∉ ps.map (·.1) := fun p hp => old _ _ (N p hp).1
  obtain ⟨oL, _, _, hL, _⟩ := F.ns
  refine ⟨⟨rest_with e _ _, g, m, ps ++ news, G, frKeeps F hs, fun p hp => ?_, ?_⟩, nd, fun p hp => oldN p (C.exs p hp), fun x c h => ?_, ?_⟩
  · rcases List.mem_append.mp hp with hp | hp
    · refine ⟨hg p hp, fun q => old _ _ hL ?_, ?_⟩
      · have := List.mem_map_of_mem (f := (·.1)) hp
        rw [q] at this
        exact this
      · cases q : g.get? p.1 with
        | none => rfl
        | some o => exact absurd (List.mem_map_of_mem (f := (·.1)) hp) (old _ _ (F.keep _ _ q))
    · exact ⟨hs _ _ (N p hp).1, (N p hp).2⟩
  · refine ⟨?_, fun p hp => ?_, fun p hp => ?_, C.aln, C.len, fun i o h => ?_, fun t ht => List.mem_append_right _ (C.tps t ht), fun x v h => ?_, fun x c h => ?_, C.scc, C.mfx, fun p hp t ht' => ?_⟩
    · rw [List.map_append]
      refine List.nodup_append.mpr ⟨nd, C.nd, fun a ha b hb q => ?_⟩
      obtain ⟨p, hp, rfl⟩ := List.mem_map.mp hb
      exact oldN p hp (q ▸ ha)
    · rcases List.mem_append.mp hp with hp | hp
      · exact List.mem_append_left _ hp
      · exact List.mem_append_right _ (C.exs p hp)
    · rcases List.mem_append.mp hp with hp | hp
      · intro q
        obtain ⟨o, ho⟩ := C.al_lt q
        exact oldN _ ho (List.mem_map_of_mem (f := (·.1)) hp)
      · exact C.exd p hp
    · obtain ⟨a, ob, h1, h2, h3⟩ := C.obs i o h
      exact ⟨a, ob, h1, List.mem_append_right _ h2, h3⟩
    · obtain ⟨u, h1, h2⟩ := C.loc x v h
      refine ⟨u, h1, ?_⟩
      cases h2 with
      | loc a b c => exact .loc a b c
      | comp a b c => exact .comp a (List.mem_append_right _ b) c
      | cell a b c d => exact .cell a b (List.mem_append_right _ c) d
    · obtain ⟨h1, o, v, h2, h3⟩ := C.cel x c h
      exact ⟨h1, o, v, List.mem_append_right _ h2, h3⟩
    · rcases List.mem_append.mp hp with hp | hp
      · intro q
        exact oldN _ (C.tps t ht') (q ▸ List.mem_map_of_mem (f := (·.1)) hp)
      · exact C.ext p hp t ht'
  · obtain ⟨_, o, v, h2, _⟩ := C.cel x c h
    exact oldN _ h2
  · obtain ⟨o, ho⟩ := hl
    exact old _ _ ho

theorem Rep.exPop {fx : Fx} {σ : St} {W : Wd} {s : Shared} {ps : List (Addr × Obj)} (R : Rep (fx.pushL ps) σ W s) {p : Addr × Obj} (hp : p ∈ ps) : s.heap.get? p.1 = some p.2 := by
  refine R.elim fun _ g m news G F N C => ?_
  exact (N p (C.exs p (List.mem_append_left _ hp))).1

end Mine

set_option autoImplicit false
namespace Mine
open PySem PySem.W PySem.Calls PySem.Spec PyProof.Rows

inductive Fl where
  | next | brk | cont
  | ret (v : V)
inductive FlR (W : Wd) : Fl → Flow → Prop
  | next : FlR W .next .next
  | brk : FlR W .brk .brk
  | cont : FlR W .cont .cont
  | ret {v : V} {u : Value} : VR W v u → FlR W (.ret v) (.ret u)

def PF (fx : Fx) (W : Wd) (Q : Fl → St → Prop) : Flow → Shared → Prop := fun f s' => ∃ W' σ' fl, W.le W' ∧ Rep fx σ' W' s' ∧ FlR W' fl f ∧ Q fl σ'
theorem PF.elim {fx : Fx} {W : Wd} {Q : Fl → St → Prop} {u : Flow} {s : Shared} {P : Prop} (x : PF fx W Q u s) (k : ∀ W' σ' v, W.le W' → Rep fx σ' W' s → FlR W' v u → Q v σ' → P) : P := by
  obtain ⟨W', σ', v, a, b, c, d⟩ := x
  exact k W' σ' v a b c d
theorem PF.mono {fx : Fx} {W W' : Wd} {Q Q' : Fl → St → Prop} (h : W.le W') (hq : ∀ v σ, Q v σ → Q' v σ) {u : Flow} {s : Shared} : PF fx W' Q u s → PF fx W Q' u s := by
  rintro ⟨W₁, σ, v, a, b, c, d⟩
  exact ⟨W₁, σ, v, h.trans a, b, c, hq _ _ d⟩

def EvS (fx : Fx) (X : XP) (st : Stmt) (σ : St) (Q : Fl → St → Prop) : Prop := ∀ W s, Rep fx σ W s → wpAny fx.M fx.A (exec st fx.env) (PF fx W Q) (PX fx W X) s
def EvSs (fx : Fx) (X : XP) (ss : List Stmt) (σ : St) (Q : Fl → St → Prop) : Prop := ∀ W s, Rep fx σ W s → wpAny fx.M fx.A (execs ss fx.env) (PF fx W Q) (PX fx W X) s

/-- what holds of a frame -/
structure FxAll (fx : Fx) : Prop where
  ok : FxOk fx
  locs : fx.env.locals = fx.L ∨ ∃ o, (fx.env.locals, o) ∈ fx.ex
  cex : fx.env.locals = fx.L → ∀ x c, fx.env.cells.lookup x = some c → ∀ p ∈ fx.ex, p.1 ≠ c
  cinj : ∀ x y c, fx.env.cells.lookup x = some c → fx.env.cells.lookup y = some c → x = y
  cdef : ∀ x, fx.env.kindOf x = some .cell → fx.env.cells.lookup x ≠ none
  scr : ∃ xs n o, fx.base.get? fx.sc = some o ∧ o.cls = .type "list" ∧ o.data = .seq (List.toArray xs) n ∧ IntsAre xs fx.ns ∧ fx.ns.length < 2 ^ 62
  egl : fx.env.globals = mainGlobals
  ebu : fx.env.builtins = builtinsNs
  top : Top fx.pg.p fx.pg.loose fx.pg.mean fx.pg.mg fx.pg.mb fx.base
  part : fx.pg.K.In fx.base
  below : Below fx.A₀ fx.base fx.outer fx.h₀
  dicts : KtsDicts (fx.outer.filterMap (·.frame)) fx.h₀
  frs : fx.A.frames = some (fx.fenv :: fx.outer)
  ffr : fx.fenv.frame = some fx.L
  fkd : fx.fenv.scope.kind = .function
  depth : fx.A.depth + fx.lev < recursionLimit
  room : fx.A.units + 8 * fx.lev + 100 < cLine
  mfn : fx.env.locals = fx.L → fx.mfix = none
  envf : fx.env.locals = fx.L → fx.env = fx.fenv

theorem FxAll.units {fx : Fx} (a : FxAll fx) : fx.A.units + 100 < cLine := by have := a.room; omega

theorem FxAll.ground {fx : Fx} (a : FxAll fx) {g : Heap} (G : KtsTurn (fx.outer.filterMap (·.frame)) fx.h₀ g) : Below fx.A₀ fx.base fx.outer g ∧ KtsDicts (fx.outer.filterMap (·.frame)) g := by
  have K := a.below
  refine ⟨⟨K.stack, fun b o e => G.other b o (K.stays b o e) (fun hm => ?_), K.frames.of_keeps fun b o e _ => ?_⟩, a.dicts.turn G⟩
  · rw [(K.frames.mem hm).1] at e
    cases e
  · obtain ⟨sl, hs⟩ := G.up e
    exact ⟨_, hs, rfl⟩
theorem FxAll.stays {fx : Fx} (a : FxAll fx) {σ : St} {W : Wd} {s : Shared} (R : Rep fx σ W s) : ∀ b o, fx.base.get? b = some o → s.heap.get? b = some o := by
  refine R.elim fun _ g m news G F N C => ?_
  exact fun b o e => F.keep b o ((a.ground G).1.stays b o e)

theorem FxAll.glbAt {fx : Fx} (a : FxAll fx) {A : Around} (x : Str) (v : Value) (pos : Pos) (h : fx.pg.gl x = some v) (hk : fx.env.kindOf x = some .globalImplicit) (s : Shared) (Q : Value → Shared → Prop) (E : Value → Shared → Prop) (st : ∀ b o, fx.base.get? b = some o → s.heap.get? b = some o) (q : Q v s)
    (hd : (x == ("__debug__" : Str)) = false) : wpAny fx.M A (eval (.Name x pos) fx.env) Q E s := by
  unfold Pg.gl at h
  split at h
  · rename_i v' e
    cases h
    exact Name_function_global a.ok.kind hk (loadGlobal_global (by rw [a.egl]; exact a.top.g.keeps st) (mg_of a.part a.top.g e) q) hd
  · rename_i e
    split at h
    · cases h
    · rename_i hn
      exact Name_function_global a.ok.kind hk (loadGlobal_builtin (by rw [a.egl]; exact a.top.g.keeps st) (mg_none_of a.part a.top.g e) (by rw [a.ebu]; exact a.top.b.keeps st) ((a.top.builtins x hn).trans h) q) hd
  · cases h
theorem FxAll.glb {fx : Fx} (a : FxAll fx) (x : Str) (v : Value) (pos : Pos) (h : fx.pg.gl x = some v) (hk : fx.env.kindOf x = some .globalImplicit) (σ : St) (W : Wd) (s : Shared) (Q : Value → Shared → Prop) (E : Value → Shared → Prop) (R : Rep fx σ W s) (q : Q v s)
    (hd : (x == ("__debug__" : Str)) = false) : wpAny fx.M fx.A (eval (.Name x pos) fx.env) Q E s := a.glbAt x v pos h hk s Q E (a.stays R) q hd

theorem Core.unpush {fx : Fx} {σ : St} {W : Wd} {m : Str → Option Value} {news ps : List (Addr × Obj)} (C : Core (fx.pushL ps) σ W m news) (hl : fx.env.locals ∉ ps.map (·.1)) : Core fx σ W m news := by
  refine ⟨C.nd, fun p hp => C.exs p (List.mem_append_right _ hp), fun p hp => C.exd p (List.mem_append_right _ hp), C.aln, C.len, C.obs, C.tps, fun x v h => ?_, C.cel, C.scc, C.mfx, fun p hp t ht => C.ext p (List.mem_append_right _ hp) t ht⟩
  obtain ⟨u, h1, h2⟩ := C.loc x v h
  refine ⟨u, h1, ?_⟩
  cases h2 with
  | loc a b c => exact .loc a b c
  | comp a b c =>
    refine .comp a ?_ c
    rcases List.mem_append.mp b with b | b
    · exact absurd (List.mem_map_of_mem (f := (·.1)) b) hl
    · exact b
  | cell a b c d => exact .cell a b c d
theorem PX.pushL {fx : Fx} {ps : List (Addr × Obj)} (hl : fx.env.locals ∉ ps.map (·.1)) {W : Wd} {X : XP} {u : Value} {s : Shared} : PX (fx.pushL ps) W X u s → PX fx W X u s := by
  rintro ⟨e, cls, k, W', σ', a, b, ⟨r, g, m, news, B, c, f⟩, d⟩
  exact ⟨e, cls, k, W', σ', a, b, ⟨r, g, m, news, B, ⟨c.turn, c.dic, c.size, c.ns, c.gB, c.fr, c.nw, c.core.unpush hl, c.base⟩, f⟩, d⟩
/-- what stands between a frame's exceptional end and its loops' -/
theorem PX.noted {fx : Fx} (ok : FxAll fx) (hL : fx.env.locals = fx.L) {W : Wd} {X : XP} {u : Value} {s : Shared} : PX fx W X u s → notedBy fx.M fx.A fx.env (cameBackBy fx.M fx.A fx.env (PX fx W X)) u s := by
  rintro ⟨e, cls, k, W', σ', rfl, b, x, d⟩
  rw [ok.envf hL]
  exact x.noted ok.frs ok.ffr fun h' x' => ⟨e, cls, _, W', σ', rfl, b, x', d⟩

theorem Rep.unpush {fx : Fx} {σ : St} {W : Wd} {s : Shared} {ps : List (Addr × Obj)} (R : Rep (fx.pushL ps) σ W s) (hl : fx.env.locals ∉ ps.map (·.1)) : Rep fx σ W s := by
  refine R.elim fun e g m news G F N C => ?_
  refine ⟨e, g, m, news, G, F, N, C.nd, fun p hp => C.exs p (List.mem_append_right _ hp), fun p hp => C.exd p (List.mem_append_right _ hp), C.aln, C.len, C.obs, C.tps, fun x v h => ?_, C.cel, C.scc, C.mfx, fun p hp t ht => C.ext p (List.mem_append_right _ hp) t ht⟩
  obtain ⟨u, h1, h2⟩ := C.loc x v h
  refine ⟨u, h1, ?_⟩
  cases h2 with
  | loc a b c => exact .loc a b c
  | comp a b c =>
    refine .comp a ?_ c
    rcases List.mem_append.mp b with b | b
    · exact absurd (List.mem_map_of_mem (f := (·.1)) b) hl
    · exact b
  | cell a b c d => exact .cell a b c d

theorem FxAll.pushL {fx : Fx} (a : FxAll fx) {ps : List (Addr × Obj)} (ok : ExOk fx ps) : FxAll (fx.pushL ps) where
  ok := ⟨a.ok.kind, a.ok.handled⟩
  locs := a.locs.imp id fun ⟨o, h⟩ => ⟨o, List.mem_append_right _ h⟩
  cex := fun hL x c h p hp => by
    rcases List.mem_append.mp hp with hp | hp
    · exact fun q => ok.cel x c h (q ▸ List.mem_map_of_mem (f := (·.1)) hp)
    · exact a.cex hL x c h p hp
  cinj := a.cinj
  cdef := a.cdef
  scr := a.scr
  egl := a.egl
  ebu := a.ebu
  top := a.top
  part := a.part
  below := a.below
  dicts := a.dicts
  frs := a.frs
  ffr := a.ffr
  fkd := a.fkd
  depth := a.depth
  room := a.room
  mfn := a.mfn
  envf := a.envf

theorem Rep.locals_at {fx : Fx} (a : FxAll fx) {σ : St} {W : Wd} {s : Shared} (R : Rep fx σ W s) : ∃ o, s.heap.get? fx.env.locals = some o := by
  refine R.elim fun _ g m news G F N C => ?_
  rcases a.locs with h | ⟨o, h⟩
  · obtain ⟨oL, _, _, hL, _⟩ := F.ns
    exact ⟨oL, h ▸ hL⟩
  · exact ⟨o, (N _ (C.exs _ h)).1⟩

section
variable {fx : Fx} {X : XP} {σ : St}

theorem EvS.mono {st : Stmt} {Q Q' : Fl → St → Prop} (h : EvS fx X st σ Q) (hq : ∀ v σ', Q v σ' → Q' v σ') : EvS fx X st σ Q' :=
  fun W s R => wpAny_mono (h W s R) (fun _ _ x => x.mono (.refl _) hq) fun _ _ x => x
theorem EvSs.mono {ss : List Stmt} {Q Q' : Fl → St → Prop} (h : EvSs fx X ss σ Q) (hq : ∀ v σ', Q v σ' → Q' v σ') : EvSs fx X ss σ Q' :=
  fun W s R => wpAny_mono (h W s R) (fun _ _ x => x.mono (.refl _) hq) fun _ _ x => x

theorem evSs_nil {Q : Fl → St → Prop} (h : Q .next σ) : EvSs fx X [] σ Q := fun W _ R => wpAny_execs_nil ⟨W, σ, .next, .refl _, R, .next, h⟩
theorem evSs_cons {st : Stmt} {rest : List Stmt} {Q : Fl → St → Prop} (h : EvS fx X st σ (fun fl σ₁ => match fl with | .next => EvSs fx X rest σ₁ Q | f => Q f σ₁)) : EvSs fx X (st :: rest) σ Q := by
  intro W s R
  refine wpAny_execs_cons (wpAny_mono (h W s R) ?_ fun _ _ x => x)
  refine fun f s₁ zz => zz.elim fun W₁ σ₁ fl le₁ R₁ r₁ h₁ => ?_
  cases r₁ with
  | next => exact wpAny_mono (h₁ W₁ s₁ R₁) (fun _ _ x => x.mono le₁ fun _ _ y => y) fun _ _ x => x.mono le₁ fun _ _ y => y
  | brk => exact ⟨W₁, σ₁, .brk, le₁, R₁, .brk, h₁⟩
  | cont => exact ⟨W₁, σ₁, .cont, le₁, R₁, .cont, h₁⟩
  | ret r => exact ⟨W₁, σ₁, .ret _, le₁, R₁, .ret r, h₁⟩

theorem evReturn {e : Expr} {pos : Pos} {Q : Fl → St → Prop} (h : EvE fx X e σ (fun v σ₁ => Q (.ret v) σ₁)) : EvS fx X (.Return (some e) pos) σ Q := by
  intro W s R
  refine wpAny_Return_some (wpAny_mono (h W s R) ?_ fun _ _ x => x)
  refine fun u s₁ zz => zz.elim fun W₁ σ₁ v le₁ R₁ r₁ h₁ => ?_
  exact ⟨W₁, σ₁, .ret v, le₁, R₁, .ret r₁, h₁⟩
theorem evIf {t : Expr} {b o : List Stmt} {pos : Pos} {Q : Fl → St → Prop} (h : EvB fx X t σ (fun c σ₁ => if c then EvSs fx X b σ₁ Q else EvSs fx X o σ₁ Q)) : EvS fx X (.If t b o pos) σ Q := by
  intro W s R
  refine wpAny_If (wpAny_mono (h W s R) ?_ fun _ _ x => x)
  refine fun c s₁ zz => zz.elim fun W₁ σ₁ le₁ R₁ h₁ => ?_
  cases c with
  | true => exact wpAny_mono (h₁ W₁ s₁ R₁) (fun _ _ x => x.mono le₁ fun _ _ y => y) fun _ _ x => x.mono le₁ fun _ _ y => y
  | false => exact wpAny_mono (h₁ W₁ s₁ R₁) (fun _ _ x => x.mono le₁ fun _ _ y => y) fun _ _ x => x.mono le₁ fun _ _ y => y

def notComp : Expr → Bool
  | .ListComp .. | .SetComp .. | .DictComp .. => false
  | _ => true
theorem swaps_false {e : Expr} (h : notComp e = true) (t : Option Expr) (n : Nat) (env : Env) : swapsWith e t n env = pure false := by
  cases e <;> first | rfl | cases h

theorem evExpr (ok : FxOk fx) {e : Expr} {pos : Pos} {Q : Fl → St → Prop} (h : EvE fx X e σ (fun _ σ₁ => Q .next σ₁)) (hc : notComp e = true) : EvS fx X (.Expr e pos) σ Q := by
  intro W s R
  refine wpAny_Expr_any (wpAny_mono (h W s R) ?_ fun _ _ x => x) (by simp [interactive, ok.kind]) (swaps_false hc _ _ _)
  refine fun u s₁ zz => zz.elim fun W₁ σ₁ v le₁ R₁ r₁ h₁ => ?_
  exact ⟨W₁, σ₁, .next, le₁, R₁, .next, h₁⟩

def isVar (fx : Fx) (x : Str) : Prop := fx.env.locals = fx.L ∧ (fx.env.kindOf x = some .local ∨ fx.env.kindOf x = some .cell)

theorem storeVar (ok : FxAll fx) {x : Str} (hx : isVar fx x) {W : Wd} {s : Shared} {v : V} {u : Value} (R : Rep fx σ W s) (r : VR W v u) {Q : Unit → Shared → Prop} {E : Value → Shared → Prop}
    (k : ∀ h' tk, Rep fx (σ.set x v) W { s with heap := h', toks := tk } → Q () { s with heap := h', toks := tk }) : wpAny fx.M fx.A (storeName fx.env x u) Q E s := by
  obtain ⟨hL, hk | hk⟩ := hx
  · obtain ⟨_, g, m, news, G, F, N, C⟩ := id R
    refine wpAny_storeName_local hk (by rw [hL]; exact F.ns) (fun h' hn hs => k _ _ (R.setLoc r hk hL (ok.mfn hL) _ (by simp) ?_ (hL ▸ hn) (hL ▸ hs))) (by rw [ok.ok.kind]; rfl)
    intro y hy m' hm'
    simp only [hy, if_false]
    obtain ⟨o, es, ep, a1, a2, _, a4⟩ := F.ns
    obtain ⟨o', es', ep', b1, b2, _, b4⟩ := hm'
    rw [a1] at b1; cases b1
    rw [a2] at b2; cases b2
    rw [← a4, ← b4]
  · obtain ⟨e, g, m, news, G, F, N, C⟩ := id R
    cases hc : fx.env.cells.lookup x with
    | none => exact absurd hc (ok.cdef x hk)
    | some c =>
      obtain ⟨h1, o, v₀, h2, h3⟩ := C.cel x c hc
      refine wpAny_storeName_cell ok.ok.kind hk hc ⟨o, N.get h2, h3⟩ fun h' hv hs => ?_
      obtain ⟨o', ho', hd'⟩ := hv
      obtain ⟨F', N'⟩ := fr_upd F N h2 hs.extBut ho'
      refine k h' s.toks ⟨rest_with e _ _, g, m, setL c o' news, G, F', N', ?_⟩
      have other : ∀ p ∈ news, p.1 ≠ c → p ∈ setL c o' news := fun p hp q => setL_ne hp q
      refine ⟨by rw [setL_keys]; exact C.nd, fun p hp => other p (C.exs p hp) (ok.cex hL x c hc p hp), C.exd, C.aln, C.len, fun i o₁ h => ?_, fun t ht => other _ (C.tps t ht) fun q => ?_, fun y w h => ?_, fun y c' h => ?_, C.scc, C.mfx, C.ext⟩
      · obtain ⟨a, ob, k1, k2, k3⟩ := C.obs i o₁ h
        exact ⟨a, ob, k1, other _ k2 fun q => h1 (q ▸ List.mem_of_getElem? k1), k3⟩
      · dsimp only at q
        have := C.tps t ht
        rw [q] at this
        rw [← key_inj C.nd this h2] at h3
        cases h3
      · by_cases q : y = x
        · subst q
          simp [St.set, setN] at h
          subst h
          exact ⟨u, r, .cell (.inl hk) hc (setL_self h2) hd'⟩
        · simp [St.set, setN, q] at h
          obtain ⟨u', k1, k2⟩ := C.loc y w h
          refine ⟨u', k1, ?_⟩
          cases k2 with
          | loc a b d => exact .loc a b d
          | comp a b d => exact .comp a b d
          | cell a b d f => exact .cell a b (other _ d fun z => q (ok.cinj y x c (by rw [b]; exact congrArg some z) hc)) f
      · obtain ⟨k1, o₁, w, k2, k3⟩ := C.cel y c' h
        by_cases q : c' = c
        · subst q
          exact ⟨k1, o', _, setL_self h2, hd'⟩
        · exact ⟨k1, o₁, w, other _ k2 q, k3⟩

theorem evAssignName (ok : FxAll fx) {x : Str} {p pos : Pos} {e : Expr} {Q : Fl → St → Prop} (hx : isVar fx x) (h : EvE fx X e σ (fun v σ₁ => Q .next (σ₁.set x v))) (hc : notComp e = true) : EvS fx X (.Assign [.Name x p] e pos) σ Q := by
  intro W s R
  refine wpAny_Assign_Name (wpAny_mono (h W s R) ?_ fun _ _ x => x) (swaps_false hc _ _ _)
  refine fun u s₁ zz => zz.elim fun W₁ σ₁ v le₁ R₁ r₁ h₁ => ?_
  exact storeVar ok hx R₁ r₁ fun _ _ R₂ => ⟨W₁, _, .next, le₁, R₂, .next, h₁⟩

/-- what an iterator yields -/
structure Src (fx : Fx) (W₀ : Wd) (its : List V) (need : St → Prop) (Io : Addr) (st : Nat → List (Addr × Obj) → Prop) : Prop where
  tup : ∀ k ps, st k ps → ∀ p ∈ ps, ∀ xs, p.2 ≠ tupObj xs
  own : ∀ qs (k : Nat) ps (σ : St) W s (t : Expr) (u : Value), st k ps → Rep ((fx.pushL qs).pushL ps) σ W s → ∀ (Q : Unit → Shared → Prop) (E : Value → Shared → Prop), Q () s → wpAny fx.M fx.A (letOwnedTupleGo t (.ref Io) u) Q E s
  self : ∀ qs (k : Nat) ps (σ : St) W s, st k ps → Rep ((fx.pushL qs).pushL ps) σ W s → ∀ (Q : Value → Shared → Prop) (E : Value → Shared → Prop), Q (.ref Io) s → wpAny fx.M fx.A (pyIter (.ref Io)) Q E s
  next : ∀ qs (k : Nat) ps (σ : St) W s (hk : k < its.length), W₀.le W → st k ps → ExOk (fx.pushL qs) ps → Rep ((fx.pushL qs).pushL ps) σ W s → need σ → ∀ (Q : Option Value → Shared → Prop) (E : Value → Shared → Prop),
    (∀ u ps' W' h' tk', st (k + 1) ps' → ps'.map (·.1) = ps.map (·.1) → W.le W' → VR W' its[k] u → Rep ((fx.pushL qs).pushL ps') σ W' { s with heap := h', toks := tk' } → Q (some u) { s with heap := h', toks := tk' }) →
    wpAny fx.M fx.A (pyNext (.ref Io)) Q E s
  done : ∀ qs ps (σ : St) W s, W₀.le W → st its.length ps → ExOk (fx.pushL qs) ps → Rep ((fx.pushL qs).pushL ps) σ W s → need σ → ∀ (Q : Option Value → Shared → Prop) (E : Value → Shared → Prop),
    (∀ h' tk', Rep (fx.pushL qs) σ W { s with heap := h', toks := tk' } → Q none { s with heap := h', toks := tk' }) → wpAny fx.M fx.A (pyNext (.ref Io)) Q E s

def IterT (fx : Fx) (X : XP) (iter : Expr) (σ : St) (P : List V → (St → Prop) → St → Prop) : Prop :=
  ∀ W s, Rep fx σ W s → wpAny fx.M fx.A (eval iter fx.env) (fun xv s₁ => wpAny fx.M fx.A (pyIter xv) (fun it s₂ => ∃ Io st ps W' σ' its need, it = .ref Io ∧ W.le W' ∧ Src fx W' its need Io st ∧ st 0 ps ∧ ExOk fx ps ∧
    Rep (fx.pushL ps) σ' W' s₂ ∧ P its need σ') (PX fx W X) s₁) (PX fx W X) s
theorem IterT.mono {iter : Expr} {P P' : List V → (St → Prop) → St → Prop} (h : IterT fx X iter σ P) (hp : ∀ its need σ', P its need σ' → P' its need σ') : IterT fx X iter σ P' := by
  refine fun W s R => wpAny_mono (h W s R) (fun _ _ x => wpAny_mono x ?_ fun _ _ e => e) fun _ _ e => e
  rintro _ _ ⟨Io, st, ps, W', σ', its, need, a, b, c, d, e, f, g⟩
  exact ⟨Io, st, ps, W', σ', its, need, a, b, c, d, e, f, hp _ _ _ g⟩

def AsgT (fx : Fx) (X : XP) (t : Expr) (v : V) (σ : St) (Q : St → Prop) : Prop :=
  ∀ W s u, Rep fx σ W s → VR W v u → wpAny fx.M fx.A (assign t fx.env u) (PU fx W Q) (PX fx W X) s
theorem asgName (ok : FxAll fx) {x : Str} {p : Pos} {v : V} {Q : St → Prop} (hx : isVar fx x) (h : Q (σ.set x v)) : AsgT fx X (.Name x p) v σ Q := fun W _ _ R r =>
  wpAny_bind (wpAny_standAt (wpAny_bindName (storeVar ok hx R r fun _ _ R₂ => ⟨W, _, .refl _, R₂, h⟩)))

theorem evFor (ok : FxAll fx) (hL : fx.env.locals = fx.L) {t iter : Expr} {b : List Stmt} {pos : Pos} {Q : Fl → St → Prop}
    (h : IterT fx X iter σ (fun its need σ₁ => ∃ J : Nat → St → Prop, J 0 σ₁ ∧ (∀ k σ', J k σ' → need σ') ∧
      (∀ (k : Nat) σ' (hk : k < its.length), J k σ' → ∀ ps, FxAll (fx.pushL ps) → AsgT (fx.pushL ps) X t its[k] σ' (fun σ₁ => EvSs (fx.pushL ps) X b σ₁ (fun fl σ₂ => match fl with | .next | .cont => J (k + 1) σ₂ | .brk => Q .next σ₂ | .ret v => Q (.ret v) σ₂))) ∧
      ∀ σ', J its.length σ' → Q .next σ'))
    (hs : ∀ x, foldedSetIterable iter fx.env x = pure x) : EvS fx X (.For t iter b [] pos) σ Q := by
  intro W s R
  refine wpAny_For (wpAny_mono (h W s R) (fun xv s₁ h₁ => wpAny_mono h₁ (fun it s₂ h₂ => ?_) fun _ _ e => e) fun _ _ e => e) hs
  obtain ⟨Io, st, ps, W₀, σ₀, its, need, rfl, le₀, S, hst, hex, R₀, J, h0, hn, turn, fin⟩ := h₂
  have drop : ∀ ps' (σ' : St) W' s', ExOk fx ps' → Rep (fx.pushL ps') σ' W' s' → Rep fx σ' W' s' := fun ps' σ' W' s' o r => r.unpush o.loc
  refine codeAny_forLoop_any (fun n s' => ∃ k ps' W' σ', n = its.length - k ∧ k ≤ its.length ∧ W₀.le W' ∧ st k ps' ∧ ExOk fx ps' ∧ Rep (fx.pushL ps') σ' W' s' ∧ J k σ') ?_ its.length ⟨0, ps, W₀, σ₀, rfl, Nat.zero_le _, .refl _, hst, hex, R₀, h0⟩
  rintro n s' ⟨k, ps', W', σ', rfl, hk, le₁', hst', hex', R', hJ⟩
  have le' := le₀.trans le₁'
  rcases Nat.lt_or_ge k its.length with hlt | hge
  · refine S.next [] k ps' σ' W' s' hlt le₁' hst' hex' R' (hn k σ' hJ) _ _ fun u ps'' W'' h'' tk'' hst'' hkey le'' r'' R'' => ?_
    have hex'' : ExOk fx ps'' := ⟨hkey ▸ hex'.nd, hkey ▸ hex'.dis, hkey ▸ hex'.cel, hkey ▸ hex'.loc⟩
    refine S.own [] (k + 1) ps'' σ' W'' _ t u hst'' R'' _ _ ?_
    refine wpAny_mono (turn k σ' hlt hJ ps'' (ok.pushL hex'') W'' _ u R'' r'') ?_ fun _ _ x => ((x.pushL hex''.loc).mono (le'.trans le'') fun _ _ y => y).noted ok hL
    refine fun _ s₃ zz => zz.elim fun W₃ σ₃ le₃ R₃ h₃ => ?_
    refine wpAny_mono (h₃ W₃ s₃ R₃) ?_ fun _ _ x => ((x.pushL hex''.loc).mono ((le'.trans le'').trans le₃) fun _ _ y => y).noted ok hL
    refine fun f s₄ zz => zz.elim fun W₄ σ₄ fl le₄ R₄ r₄ h₄ => ?_
    have LE := ((le'.trans le'').trans le₃).trans le₄
    have LE₁ := ((le₁'.trans le'').trans le₃).trans le₄
    cases r₄ with
    | next => exact ⟨its.length - (k + 1), by omega, k + 1, ps'', W₄, σ₄, rfl, hlt, LE₁, hst'', hex'', R₄, h₄⟩
    | cont => exact ⟨its.length - (k + 1), by omega, k + 1, ps'', W₄, σ₄, rfl, hlt, LE₁, hst'', hex'', R₄, h₄⟩
    | brk => exact ⟨W₄, σ₄, .next, LE, drop _ _ _ _ hex'' R₄, .next, h₄⟩
    | ret r => exact ⟨W₄, σ₄, .ret _, LE, drop _ _ _ _ hex'' R₄, .ret r, h₄⟩
  · obtain rfl : k = its.length := Nat.le_antisymm hk hge
    exact S.done [] ps' σ' W' s' le₁' hst' hex' R' (hn _ σ' hJ) _ _ fun h'' tk'' R'' => wpAny_execs_nil ⟨W', σ', .next, le', R'', .next, fin σ' hJ⟩
end
end Mine

set_option autoImplicit false
namespace Mine
open PySem PySem.W PySem.Calls PySem.Spec PyProof.Rows

section
variable {fx : Fx} {X : XP} {σ : St} {W : Wd} {s : Shared}

theorem Rep.list_at (R : Rep fx σ W s) {i : Nat} {vs : List V} {u : Value} (ho : σ.hp[i]? = some (.list vs)) (r : VR W (.ref i) u) : ∃ a xs n, u = .ref a ∧ W.al[i]? = some a ∧ s.heap.get? a = some (listObj xs n) ∧ VRs W vs xs := by
  refine R.elim fun _ g m news G F N C => ?_
  obtain ⟨a, ob, h1, h2, h3⟩ := C.obs i _ ho
  cases r with
  | ref e =>
    rw [h1] at e
    cases e
    cases h3 with
    | list n q => exact ⟨a, _, n, rfl, h1, (N _ h2).1, q⟩
theorem Rep.tup_at (R : Rep fx σ W s) {vs : List V} {u : Value} (r : VR W (.tup vs) u) : ∃ a xs, u = .ref a ∧ s.heap.get? a = some (tupObj xs) ∧ VRs W vs xs := by
  refine R.elim fun _ g m news G F N C => ?_
  cases r with
  | tup e q => exact ⟨_, _, rfl, (N _ (C.tps _ e)).1, q⟩
theorem listObj_isList {h : Heap} {a : Addr} {xs : List Value} {n : Nat} (e : h.get? a = some (listObj xs n)) : h.IsList a xs.toArray := ⟨_, e, rfl, n, rfl⟩
theorem tupObj_isTup {h : Heap} {a : Addr} {xs : List Value} (e : h.get? a = some (tupObj xs)) : IsTup h a xs.toArray := ⟨_, e, rfl, 0, rfl⟩

/-! data -/
mutual
inductive Dat (hp : List O) : V → PyData → Prop
  | none : Dat hp .none .none
  | bool (b : Bool) : Dat hp (.bool b) (.bool b)
  | int (n : Int) : Dat hp (.int n) (.int n)
  | str (x : Str) : Dat hp (.str x) (.str x)
  | tup {vs : List V} {ds : List PyData} : Dats hp vs ds → Dat hp (.tup vs) (.tuple ds)
  | list {i : Nat} {vs : List V} {ds : List PyData} : hp[i]? = some (.list vs) → Dats hp vs ds → Dat hp (.ref i) (.list ds)
inductive Dats (hp : List O) : List V → List PyData → Prop
  | nil : Dats hp [] []
  | cons {v : V} {vs : List V} {d : PyData} {ds : List PyData} : Dat hp v d → Dats hp vs ds → Dats hp (v :: vs) (d :: ds)
end
mutual
theorem Dat.reads (R : Rep fx σ W s) : ∀ {v : V} {d : PyData}, Dat σ.hp v d → ∀ {u : Value}, VR W v u → ∃ as, Reads s.heap u d as
  | _, _, .none => fun r => by cases r; exact ⟨_, .none⟩
  | _, _, .bool b => fun r => by cases r; exact ⟨_, .bool b⟩
  | _, _, .int n => fun r => by cases r; exact ⟨_, .int n _⟩
  | _, _, .str x => fun r => by cases r; exact ⟨_, .str x _⟩
  | _, _, .tup ds => fun r => by
    obtain ⟨a, xs, rfl, h1, h2⟩ := R.tup_at r
    obtain ⟨as, q⟩ := Dats.reads R ds h2
    exact ⟨_, .tuple h1 rfl rfl (by simpa using q)⟩
  | _, _, .list ho ds => fun r => by
    obtain ⟨a, xs, n, rfl, _, h1, h2⟩ := R.list_at ho r
    obtain ⟨as, q⟩ := Dats.reads R ds h2
    exact ⟨_, .list h1 rfl rfl (by simpa using q)⟩
theorem Dats.reads (R : Rep fx σ W s) : ∀ {vs : List V} {ds : List PyData}, Dats σ.hp vs ds → ∀ {us : List Value}, VRs W vs us → ∃ as, ReadsAll s.heap us ds as
  | _, _, .nil => fun r => by cases r; exact ⟨_, .nil⟩
  | _, _, .cons a b => fun r => by
    cases r with
    | cons c d =>
      obtain ⟨as, h1⟩ := Dat.reads R a c
      obtain ⟨bs, h2⟩ := Dats.reads R b d
      exact ⟨_, .cons h1 h2⟩
end

theorem dats_ints (hp : List O) : ∀ ns : List Int, Dats hp (ns.map .int) (ns.map .int)
  | [] => .nil
  | n :: r => .cons (.int n) (dats_ints hp r)

/-! binary operations -/
theorem bin_addT {x y : Int} {Q : V → St → Prop} (h : Q (.int (x + y)) σ) : BinT fx X .Add (.int x) (.int y) σ Q := by
  intro W s u₁ u₂ R r₁ r₂; cases r₁; cases r₂; exact add_int (.here (R.toks _) (.int _ _) h)
theorem bin_subT {x y : Int} {Q : V → St → Prop} (h : Q (.int (x - y)) σ) : BinT fx X .Sub (.int x) (.int y) σ Q := by
  intro W s u₁ u₂ R r₁ r₂; cases r₁; cases r₂; exact sub_int (.here (R.toks _) (.int _ _) h)
theorem bin_mulT {x y : Int} {Q : V → St → Prop} (q : x.natAbs < 2 ^ 64 ∨ y.natAbs < 2 ^ 64) (h : Q (.int (x * y)) σ) : BinT fx X .Mult (.int x) (.int y) σ Q := by
  intro W s u₁ u₂ R r₁ r₂; cases r₁; cases r₂
  refine PyProof.Rows.mul_int (.here (R.toks _) (.int _ _) h) ?_
  rcases q with q | q
  · exact .of_left (intBits_le q)
  · exact .of_right (intBits_le q)
theorem bin_modT {x y : Int} {Q : V → St → Prop} (q : 0 < y) (h : Q (.int (x % y)) σ) : BinT fx X .Mod (.int x) (.int y) σ Q := by
  intro W s u₁ u₂ R r₁ r₂; cases r₁; cases r₂
  exact mod_int' (Int.ne_of_gt q) (.here (R.toks _) (.int _ _) (by rw [Int.fmod_eq_emod_of_nonneg _ (Int.le_of_lt q)]; exact h))
theorem bin_divT {x y : Int} {Q : V → St → Prop} (q : 0 < y) (q' : y < 2 ^ 30) (h : Q (.int (x / y)) σ) : BinT fx X .FloorDiv (.int x) (.int y) σ Q := by
  intro W s u₁ u₂ R r₁ r₂; cases r₁; cases r₂
  exact floordiv_int (Int.ne_of_gt q) (.here (R.toks _) (.int _ _) (by rw [Int.fdiv_eq_ediv_of_nonneg _ (Int.le_of_lt q)]; exact h)) (.inl (PyProof.noPylong_small (by omega)))
theorem bin_powT {x y : Int} {Q : V → St → Prop} (q : 0 ≤ y ∧ y ≤ 1000000 ∧ x.natAbs < 2 ^ 64) (h : Q (.int (x ^ y.toNat)) σ) : BinT fx X .Pow (.int x) (.int y) σ Q := by
  intro W s u₁ u₂ R r₁ r₂; cases r₁; cases r₂; exact pow_int_small q.1 q.2.1 q.2.2 (.here (R.toks _) (.int _ _) h)
/-! comparisons -/
theorem cmp_eqT (hu : fx.A.units + 64 < cLine) {a b : V} {da db : PyData} {Q : V → St → Prop} (h1 : Dat σ.hp a da) (h2 : Dat σ.hp b db) (h3 : PySem.SeqAt.shaped da = true) (h4 : PySem.SeqAt.shaped db = true) (h5 : Q (.bool (PyData.eqv da db)) σ) : CmpT fx X .Eq a b σ Q := by
  intro W s u₁ u₂ R r₁ r₂
  obtain ⟨as, ra⟩ := h1.reads R r₁
  obtain ⟨bs, rb⟩ := h2.reads R r₂
  exact eq_dataH ra rb h3 h4 hu (.here R (.bool _) h5)
theorem cmp_neT (hu : fx.A.units + 64 < cLine) {a b : V} {da db : PyData} {Q : V → St → Prop} (h1 : Dat σ.hp a da) (h2 : Dat σ.hp b db) (h3 : PySem.SeqAt.shaped da = true) (h4 : PySem.SeqAt.shaped db = true) (h5 : Q (.bool (!PyData.eqv da db)) σ) : CmpT fx X .NotEq a b σ Q := by
  intro W s u₁ u₂ R r₁ r₂
  obtain ⟨as, ra⟩ := h1.reads R r₁
  obtain ⟨bs, rb⟩ := h2.reads R r₂
  exact ne_dataH ra rb h3 h4 hu (.here R (.bool _) h5)
/-- a value that is not None, not a truth value -/
def someV : V → Bool
  | .int _ | .str _ | .tup _ | .ref _ => true
  | _ => false
theorem someV_ne {v : V} {u : Value} (h : someV v = true) (r : VR W v u) : plainIs u .none = true ∧ (u == .none) = false ∧ ∀ b, plainIs u (.bool b) = true ∧ (u == .bool b) = false := by
  cases r <;> first | exact ⟨rfl, rfl, fun b => ⟨rfl, rfl⟩⟩ | cases h
theorem is_plainT {a b : V} {c : Bool} {Q : V → St → Prop} (e : ∀ (W : Wd) u₁ u₂, VR W a u₁ → VR W b u₂ → plainIs u₁ u₂ = true ∧ (u₁ == u₂) = c) : (Q (.bool c) σ → CmpT fx X .Is a b σ Q) ∧ (Q (.bool (!c)) σ → CmpT fx X .IsNot a b σ Q) := by
  constructor
  · intro h W s u₁ u₂ R r₁ r₂
    obtain ⟨p, q⟩ := e W u₁ u₂ r₁ r₂
    exact wpAny_is_plain p (by rw [q]; exact .here R (.bool _) h)
  · intro h W s u₁ u₂ R r₁ r₂
    obtain ⟨p, q⟩ := e W u₁ u₂ r₁ r₂
    exact wpAny_isNot_plain p (by rw [q]; exact .here R (.bool _) h)
theorem is_nn : ∀ (W : Wd) u₁ u₂, VR W .none u₁ → VR W .none u₂ → plainIs u₁ u₂ = true ∧ (u₁ == u₂) = true := fun W u₁ u₂ r₁ r₂ => by cases r₁; cases r₂; exact ⟨rfl, rfl⟩
theorem is_vn {v : V} (h : someV v = true) : ∀ (W : Wd) u₁ u₂, VR W v u₁ → VR W .none u₂ → plainIs u₁ u₂ = true ∧ (u₁ == u₂) = false := fun W u₁ u₂ r₁ r₂ => by cases r₂; exact ⟨(someV_ne h r₁).1, (someV_ne h r₁).2.1⟩
theorem cmp_ltT {x y : Int} {Q : V → St → Prop} (h : Q (.bool (decide (x < y))) σ) : CmpT fx X .Lt (.int x) (.int y) σ Q := by
  intro W s u₁ u₂ R r₁ r₂; cases r₁; cases r₂; exact lt_int (.here R (.bool _) h)
theorem cmp_gtT {x y : Int} {Q : V → St → Prop} (h : Q (.bool (decide (y < x))) σ) : CmpT fx X .Gt (.int x) (.int y) σ Q := by
  intro W s u₁ u₂ R r₁ r₂; cases r₁; cases r₂; exact gt_int (.here R (.bool _) h)
theorem tru_boolT {b : Bool} {Q : Bool → St → Prop} (h : Q b σ) : TruT fx X (.bool b) σ Q := by
  intro W s u R r; cases r; exact wpAny_truthy_bool (.here R h)
end
end Mine

set_option autoImplicit false
namespace Mine
open PySem PySem.W PySem.Calls PySem.Spec PyProof.Rows

/-! sources of loops -/
theorem own_go {M : Model} {A : Around} {E : Value → Shared → Prop} {s : Shared} {Io : Addr} {ob : Obj} {n : String} {vs : Array Value} (hg : s.heap.get? Io = some ob) (hc : ob.cls = .type n) (hd : ob.data = .fields vs)
    (hn : (["enumerate", "zip", "dict_itemiterator", "dict_reverseitemiterator", "odict_iterator", "itertools.zip_longest", "itertools.pairwise"] : List String).contains n = false) (t : Expr) (u : Value) {Q : Unit → Shared → Prop} (q : Q () s) :
    wpAny M A (letOwnedTupleGo t (.ref Io) u) Q E s := by
  unfold letOwnedTupleGo
  split
  · split
    · rename_i e
      cases e
      refine wpAny_bind (wpAny_load hg ?_)
      rw [hc, hd]
      dsimp only
      rw [hn]
      exact wpAny_pure q
    · exact wpAny_pure q
  · split
    · rename_i e
      cases e
      refine wpAny_bind (wpAny_load hg ?_)
      rw [hc, hd]
      dsimp only
      rw [hn]
      exact wpAny_pure q
    · exact wpAny_pure q
  · exact wpAny_pure q

section
variable {fx : Fx} {X : XP} {σ : St} {W : Wd} {s : Shared}

def listItSt (Io a : Addr) (k : Nat) (ps : List (Addr × Obj)) : Prop := ∃ ob : Obj, ps = [(Io, ob)] ∧ ob.cls = .type "list_iterator" ∧ ob.data = .fields #[.ref a, .int k 0]

theorem src_list (hh : fx.A.handled = none) {i : Nat} {its : List V} {a Io : Addr} (ha : W.al[i]? = some a) : Src fx W its (fun σ' => σ'.hp[i]? = some (.list its)) Io (listItSt Io a) where
  tup := by
    rintro k ps ⟨ob, rfl, hc, hd⟩ p hp xs e
    rw [List.mem_singleton.mp hp] at e
    rw [show ob = tupObj xs from e] at hc
    simp at hc
  own := by
    rintro qs k ps σ' W' s' t u ⟨ob, rfl, hc, hd⟩ R Q E q
    exact own_go (R.exPop (List.mem_singleton.mpr rfl)) hc hd (by decide) t u q
  self := by
    rintro qs k ps σ' W' s' ⟨ob, rfl, hc, hd⟩ R Q E q
    exact wpAny_pyIter_listiter ⟨ob, R.exPop (List.mem_singleton.mpr rfl), hc, hd⟩ q
  next := by
    rintro qs k ps σ' W' s' hk le ⟨ob, rfl, hc, hd⟩ ok R need Q E q
    have hg := R.exPop (List.mem_singleton.mpr rfl)
    obtain ⟨a', xs, n, ea, h1, h2, h3⟩ := R.list_at need (.ref (prefix_get le.1 ha))
    cases ea
    obtain ⟨x, hx, hv⟩ := h3.get (show its[k]? = some its[k] by simp [hk])
    refine wpAny_pyNext_list_item ⟨ob, hg, hc, hd⟩ (listObj_isList h2) (by simpa using hx) fun h' hit hs => ?_
    obtain ⟨ob', hg', hc', hd'⟩ := hit
    have R' := R.exSwap ok [(Io, ob')] rfl s'.toks
      (fun b o hb e => (hs.2 b (by simpa using hb)).trans e) (fun p hp => by rw [List.mem_singleton.mp hp]; exact hg')
    exact q x [(Io, ob')] W' h' s'.toks ⟨ob', rfl, hc', hd'⟩ rfl (.refl _) hv R'
  done := by
    rintro qs ps σ' W' s' le ⟨ob, rfl, hc, hd⟩ ok R need Q E q
    have hg := R.exPop (List.mem_singleton.mpr rfl)
    obtain ⟨a', xs, n, ea, h1, h2, h3⟩ := R.list_at need (.ref (prefix_get le.1 ha))
    cases ea
    refine wpAny_pyNext_list_end hh ⟨ob, hg, hc, hd⟩ (listObj_isList h2) (by simp [h3.length]) fun h' he => ?_
    exact q h' s'.toks (R.exDrop ok _ fun b o hb e => he b o (by simpa using hb) e)

def rngItems (a : Int) (n : Nat) : List V := (List.range n).map fun (j : Nat) => V.int (a + (j : Int))
theorem rngItems_length (a : Int) (n : Nat) : (rngItems a n).length = n := by simp [rngItems]
theorem rngItems_get (a : Int) (n k : Nat) (h : k < (rngItems a n).length) : (rngItems a n)[k] = .int (a + (k : Int)) := by simp [rngItems]

abbrev rngObj (x l : Int) : Obj := { cls := .type "range_iterator", dict := none, data := .fields #[rawInt x, rawInt l, rawInt 1], slots := #[] }
theorem rngObj_not (x l : Int) (xs : List Value) : rngObj x l ≠ tupObj xs := fun e => by
  have := congrArg Obj.cls e
  simp at this
def rngItSt (Io : Addr) (a : Int) (n : Nat) (k : Nat) (ps : List (Addr × Obj)) : Prop :=
  ps = [(Io, rngObj (a + (k : Int)) ((n : Int) - (k : Int)))]

theorem src_range (hh : fx.A.handled = none) {a : Int} {n : Nat} {Io : Addr} : Src fx W (rngItems a n) (fun _ => True) Io (rngItSt Io a n) where
  tup := by
    rintro k ps rfl p hp xs e
    rw [List.mem_singleton.mp hp] at e
    exact rngObj_not _ _ _ e
  own := by
    rintro qs k ps σ' W' s' t u rfl R Q E q
    exact own_go (R.exPop (List.mem_singleton.mpr rfl)) rfl rfl (by decide) t u q
  self := by
    rintro qs k ps σ' W' s' rfl R Q E q
    exact wpAny_pyIter_rangeiter (R.exPop (List.mem_singleton.mpr rfl)) q
  next := by
    rintro qs k ps σ' W' s' hk le rfl ok R need Q E q
    have hg := R.exPop (List.mem_singleton.mpr rfl)
    have hk' : k < n := by rwa [rngItems_length] at hk
    refine wpAny_pyNext_range_item (it := Io) (x := a + (k : Int)) (left := (n : Int) - (k : Int)) (step := 1) hg (by omega) fun h' hit hs => ?_
    have e1 : a + (k : Int) + 1 = a + ((k + 1 : Nat) : Int) := by push_cast; omega
    have e2 : (n : Int) - (k : Int) - 1 = (n : Int) - ((k + 1 : Nat) : Int) := by push_cast; omega
    rw [e1, e2] at hit
    have R' := R.exSwap ok [(Io, rngObj (a + ((k + 1 : Nat) : Int)) ((n : Int) - ((k + 1 : Nat) : Int)))] rfl (s'.toks + 1)
      (fun b o hb e => (hs.2 b (by simpa using hb)).trans e) (fun p hp => by rw [List.mem_singleton.mp hp]; exact hit)
    exact q _ _ W' h' (s'.toks + 1) rfl rfl (.refl _) (by rw [rngItems_get]; exact .int _ _) R'
  done := by
    rintro qs ps σ' W' s' le hst ok R need Q E q
    rw [rngItems_length] at hst
    cases hst
    have hg := R.exPop (List.mem_singleton.mpr rfl)
    refine wpAny_pyNext_range_end (it := Io) (x := a + (n : Int)) (left := (n : Int) - (n : Int)) (step := 1) hh hg (by omega) fun h' he => ?_
    exact q h' s'.toks (R.exDrop ok _ fun b o hb e => he b o (by simpa using hb) e)

/-- the iterator made -/
def PIt (fx : Fx) (W : Wd) (P : List V → (St → Prop) → St → Prop) : Value → Shared → Prop := fun it s₂ => ∃ Io st ps W' σ' its need, it = .ref Io ∧ W.le W' ∧ Src fx W' its need Io st ∧ st 0 ps ∧ ExOk fx ps ∧
    Rep (fx.pushL ps) σ' W' s₂ ∧ P its need σ'

def SrvT (fx : Fx) (v : V) (σ : St) (P : List V → (St → Prop) → St → Prop) : Prop := ∀ W s u (E : Value → Shared → Prop), Rep fx σ W s → VR W v u → wpAny fx.M fx.A (pyIter u) (PIt fx W P) E s
theorem srv_refT (ok : FxAll fx) (hq : fx.qt = true) {i : Nat} {its : List V} {P : List V → (St → Prop) → St → Prop} (e : σ.hp[i]? = some (.list its)) (h : P its (fun σ' => σ'.hp[i]? = some (.list its)) σ) : SrvT fx (.ref i) σ P := by
  intro W s u E R r
  obtain ⟨a, xs, n, rfl, ha, h2, h3⟩ := R.list_at e r
  refine wpAny_pyIter_list (listObj_isList h2) ?_
  obtain ⟨R', ok'⟩ := R.exPush [(s.heap.objs.size, ({ cls := .type "list_iterator", data := .fields #[.ref a, .int 0 0] } : Obj))] (by simp) s.toks
    (fun b o e => Heap.get?_push_of_some _ e) (fun p hp => by rw [List.mem_singleton.mp hp]; exact Nat.le_refl _) (fun p hp => by rw [List.mem_singleton.mp hp]; exact Heap.get?_push_size _ rfl) (R.locals_at ok)
  exact ⟨_, _, _, W, σ, its, _, rfl, .refl _, src_list (ok.ok.handled hq) ha, ⟨_, rfl, rfl, rfl⟩, ok', R', h⟩
/-! calls of the built-in functions -/
def CallT (fx : Fx) (X : XP) (f : Value) (vs : List V) (σ : St) (Q : V → St → Prop) : Prop :=
  ∀ W s us, Rep fx σ W s → VRs W vs us → wpAny fx.M fx.A (call f us) (PV fx W Q) (PX fx W X) s

theorem ScrAt (ok : FxAll fx) {σ : St} (R : Rep fx σ W s) : ∃ xs, s.heap.IsList W.sc (List.toArray xs) ∧ IntsAre xs fx.ns ∧ fx.ns.length < 2 ^ 62 := by
  have st := ok.stays R
  refine R.elim fun _ g m news G F N C => ?_
  obtain ⟨xs, n, o, h1, h2, h3, h4, h5⟩ := ok.scr
  exact ⟨xs, ⟨o, st _ _ (C.scc ▸ h1), h2, n, h3⟩, h4, h5⟩

theorem len_refT {i : Nat} {vs : List V} {Q : V → St → Prop} (ev : σ.hp[i]? = some (.list vs)) (hn : vs.length < 2 ^ 63) (h : Q (.int vs.length) σ) : CallT fx X (.builtin "len") [.ref i] σ Q := by
  intro W s us R r
  cases r with
  | cons r r' =>
    cases r'
    obtain ⟨a, xs, c, rfl, ha, h2, h3⟩ := R.list_at ev r
    refine call_len_list (listObj_isList h2) (by simp [← h3.length]; omega) ?_
    have e1 : (xs.toArray.size : Int) = (vs.length : Int) := by simp [h3.length]
    rw [e1]
    exact .here (R.toks _) (.int _ _) h
theorem len_scrT (ok : FxAll fx) {Q : V → St → Prop} (h : Q (.int fx.ns.length) σ) : CallT fx X (.builtin "len") [.scr] σ Q := by
  intro W s us R r
  cases r with
  | cons r r' =>
    cases r'
    cases r
    obtain ⟨xs, h1, h2, h3⟩ := ScrAt ok R
    refine call_len_list h1 (by simp [h2.length]; omega) ?_
    have e1 : (xs.toArray.size : Int) = (fx.ns.length : Int) := by simp [h2.length]
    rw [e1]
    exact .here (R.toks _) (.int _ _) h

theorem listOf_ok {v : V} {vs : List V} {Q : V → St → Prop} (e : (∃ i, v = .ref i ∧ σ.hp[i]? = some (.list vs)) ∨ v = .tup vs) (hl : vs.length ≤ sizeLine) (h : Q (.ref σ.hp.length) ⟨σ.loc, σ.hp ++ [.list vs]⟩) : CallT fx X (.type "list") [v] σ Q := by
  intro W s us R r
  cases r with
  | cons r₁ r =>
    cases r
    have fin : ∀ (xs : List Value) (c' : Nat) (h' : Heap), VRs W vs xs → (∀ b o', s.heap.get? b = some o' → h'.get? b = some o') → h'.get? s.heap.objs.size = some (listObj xs c') → PV fx W Q (.ref s.heap.objs.size) { s with heap := h' } := by
      intro xs c' h' hv hk hg
      refine R.elim fun er g m news G F N C => ?_
      have hle : W.le ⟨W.al ++ [s.heap.objs.size], W.tp, W.sc⟩ := ⟨List.prefix_append _ _, fun _ h => h, rfl⟩
      have fresh : ∀ p ∈ news, p.1 ≠ s.heap.objs.size := fun p hp => Nat.ne_of_lt (Heap.lt_size (N p hp).1)
      obtain ⟨oL, _, _, hL, _⟩ := F.ns
      refine ⟨⟨W.al ++ [s.heap.objs.size], W.tp, W.sc⟩, ⟨σ.loc, σ.hp ++ [.list vs]⟩, .ref σ.hp.length, hle, ⟨rest_with er _ _, g, m, (s.heap.objs.size, listObj xs c') :: news, G, frKeeps F hk, fun p hp => ?_, ?_⟩, .ref (by simp [← C.len]), h⟩
      · rcases List.mem_cons.mp hp with rfl | hp
        · refine ⟨hg, Nat.ne_of_gt (Heap.lt_size hL), ?_⟩
          cases hq : g.get? s.heap.objs.size with
          | none => rfl
          | some o' => exact absurd (Heap.lt_size (F.keep _ _ hq)) (Nat.lt_irrefl _)
        · exact ⟨hk _ _ (N p hp).1, (N p hp).2⟩
      · refine ⟨newsNodup N C.nd _, fun p hp => .tail _ (C.exs p hp), fun p hp hm => ?_, ?_, by simp [C.len], fun i o' h => ?_, fun t ht => .tail _ (C.tps t ht), fun x v h => ?_, fun x c h => ?_, C.scc, C.mfx, C.ext⟩
        · rcases List.mem_append.mp hm with hm | hm
          · exact C.exd p hp hm
          · exact fresh p (C.exs p hp) (List.mem_singleton.mp hm)
        · refine List.nodup_append.mpr ⟨C.aln, by simp, fun a ha b hb => ?_⟩
          rw [List.mem_singleton.mp hb]
          obtain ⟨o', ho'⟩ := C.al_lt ha
          exact fresh _ ho'
        · dsimp only at h
          rcases Nat.lt_trichotomy i σ.hp.length with q | q | q
          · rw [List.getElem?_append_left q] at h
            obtain ⟨a, ob', h1, h2, h3⟩ := C.obs i o' h
            exact ⟨a, ob', prefix_get hle.1 h1, .tail _ h2, h3.mono hle⟩
          · subst q
            simp at h
            subst h
            exact ⟨_, _, by simp [← C.len], .head _, .list c' (hv.mono hle)⟩
          · rw [List.getElem?_eq_none (by simp; omega)] at h
            cases h
        · obtain ⟨u, h1, h2⟩ := C.loc x v h
          exact ⟨u, h1.mono hle, h2.mono fun p hp => .tail _ hp⟩
        · obtain ⟨h1, o', v, h2, h3⟩ := C.cel x c h
          refine ⟨fun hm => ?_, o', v, .tail _ h2, h3⟩
          rcases List.mem_append.mp hm with hm | hm
          · exact h1 hm
          · exact fresh _ h2 (List.mem_singleton.mp hm)
    rcases e with ⟨i, rfl, hi⟩ | rfl
    · obtain ⟨a, xs, c, rfl, ha, h2, h3⟩ := R.list_at hi r₁
      exact call_list_seq (hsz := by simp [← h3.length]; exact hl) a (.inl rfl) h2 rfl rfl fun h' c' hk hD => fin xs c' h' h3 hk hD
    · obtain ⟨a, xs, rfl, h2, h3⟩ := R.tup_at r₁
      exact call_list_seq (hsz := by simp [← h3.length]; exact hl) a (.inr rfl) h2 rfl rfl fun h' c' hk hD => fin xs c' h' h3 hk hD

theorem isi_list {a : Addr} {o : Obj} {T : String} {A : Around} {E : Value → Shared → Prop} {prog : Program} {w : World} {Q : Value → Shared → Prop} (ho : s.heap.get? a = some o) (hc : o.cls = .type "list") (hT : T = "int" ∨ T = "bool" ∨ T = "list" ∨ T = "tuple" ∨ T = "str")
    (h : ∀ tk, Q (.bool (decide (T = "list"))) { s with toks := tk }) : wpAny (model prog w) A (call (.builtin "isinstance") [.ref a, .type T]) Q E s := by
  have no : ∀ T, (Value.type "list" == Value.type T) = false → typeOf (.type T) = pure (.type "type") → isSubtype (.type "list") (.type T) = pure false → (∀ tk, Q (.bool false) { s with toks := tk }) → wpAny (model prog w) A (call (.builtin "isinstance") [.ref a, .type T]) Q E s :=
    fun T h1 h2 h3 k => call_isinstance (isinstance_false_list h1 h2 h3) ⟨⟨o, ho, hc⟩, k _⟩
  rcases hT with rfl | rfl | rfl | rfl | rfl
  · exact no "int" (by decide) F.isi_meta_int (by rw [isSubtype_type]; kernel_rfl) h
  · exact no "bool" (by decide) F.isi_meta_bool (by rw [isSubtype_type]; kernel_rfl) h
  · exact call_isinstance (isinstance_true (Tx := "list") F.isi_meta_list (by rw [isSubtype_type]; kernel_rfl)) ⟨⟨o, ho, hc⟩, h s.toks⟩
  · exact no "tuple" (by decide) F.isi_meta_tuple (by rw [isSubtype_type]; kernel_rfl) h
  · exact no "str" (by decide) F.isi_meta_str (by rw [isSubtype_type]; kernel_rfl) h
/-- isinstance, by how the value lies -/
theorem isi_of {v : V} {T : String} {c : Bool} {Q : V → St → Prop} (e : ∀ W s u (Q : Value → Shared → Prop) (E : Value → Shared → Prop), Rep fx σ W s → VR W v u → (∀ tk, Q (.bool c) { s with toks := tk }) → wpAny fx.M fx.A (call (.builtin "isinstance") [u, .type T]) Q E s) (h : Q (.bool c) σ) : CallT fx X (.builtin "isinstance") [v, .glob (.type T)] σ Q := by
  intro W s us R r
  cases r with
  | cons r₁ r =>
    cases r with
    | cons r₂ r =>
      cases r; cases r₂
      exact e W s _ _ _ R r₁ fun tk => .here (R.toks tk) (.bool _) h

/-! places -/
def getI (xs : List V) (k : Int) : Option V := if 0 ≤ k then xs[k.toNat]? else if -(xs.length : Int) ≤ k then xs[(k + xs.length).toNat]? else none

def SubT (fx : Fx) (X : XP) (value slice : Expr) (o i : V) (σ : St) (Q : V → St → Prop) : Prop :=
  ∀ W s u₁ u₂, Rep fx σ W s → VR W o u₁ → VR W i u₂ → wpAny fx.M fx.A (subscriptTail value slice u₁ u₂) (PV fx W Q) (PX fx W X) s

def notSlice : Expr → Bool
  | .Slice .. => false
  | _ => true
theorem subscripted_plain {slice : Expr} (h : notSlice slice = true) (o i : Value) : subscripted slice false o i = operate [o, i] (getItem o i) := by
  cases slice <;> first | rfl | cases h

theorem sub_list {value slice : Expr} (hs : notSlice slice = true) {j : Nat} {xs : List V} {k : Int} {v : V} {Q : V → St → Prop} (ho : σ.hp[j]? = some (.list xs)) (hk : -(2 ^ 63) ≤ k ∧ k < 2 ^ 63) (e : getI xs k = some v) (h : Q v σ) :
    SubT fx X value slice (.ref j) (.int k) σ Q := by
  intro W s u₁ u₂ R r₁ r₂
  obtain ⟨a, ys, n, rfl, ha, h2, h3⟩ := R.list_at ho r₁
  cases r₂
  have hl := listObj_isList h2
  refine tail_any hl.typeIs slot_list_getitem.lookup ?_ (subscripted_plain hs _ _)
  unfold getI at e
  split at e
  · rename_i h0
    obtain ⟨x, hx, hv⟩ := h3.get e
    exact wpAny_getItem_list hl h0 hk.2 (by simpa using hx) (.here R hv h)
  · rename_i h0
    split at e
    · rename_i h1
      obtain ⟨x, hx, hv⟩ := h3.get e
      exact wpAny_getItem_list_neg hl (by omega) (by simpa [h3.length] using h1) hk.1 (by simpa [h3.length] using hx) (.here R hv h)
    · cases e
theorem sub_tup {value slice : Expr} (hs : notSlice slice = true) {xs : List V} {k : Int} {v : V} {Q : V → St → Prop} (hk : -(2 ^ 63) ≤ k ∧ k < 2 ^ 63) (e : getI xs k = some v) (h : Q v σ) :
    SubT fx X value slice (.tup xs) (.int k) σ Q := by
  intro W s u₁ u₂ R r₁ r₂
  obtain ⟨a, ys, rfl, h2, h3⟩ := R.tup_at r₁
  cases r₂
  rename_i tk
  have hl := tupObj_isTup h2
  refine tail_any hl.typeIs slot_tuple_getitem.lookup ?_ (subscripted_plain hs _ _)
  unfold getI at e
  have key : ∀ n, seqIndex? k ys.toArray.size = some n → xs[n]? = some v → wpAny fx.M fx.A (getItem (.ref a) (.int k tk)) (PV fx W Q) (PX fx W X) s := fun n h1 h2' => by
    obtain ⟨x, hx, hv⟩ := h3.get h2'
    exact PyProof.Rows.getItem_tuple hl hk.1 hk.2 h1 (by simpa using hx) (.here R hv h)
  split at e
  · rename_i h0
    refine key k.toNat ?_ e
    have hlt : k.toNat < xs.length := by
      rcases Nat.lt_or_ge k.toNat xs.length with z | z
      · exact z
      · rw [List.getElem?_eq_none z] at e; cases e
    have hlt' : k < ys.length := by rw [← h3.length]; omega
    unfold seqIndex?
    simp [Int.not_lt.mpr h0, h0, hlt']
  · rename_i h0
    split at e
    · rename_i h1
      refine key (k + xs.length).toNat ?_ e
      unfold seqIndex?
      rw [h3.length] at h1 ⊢
      have hneg : k < 0 := by omega
      simp only [List.size_toArray, hneg, if_true]
      rw [if_pos (by simp; omega)]
    · cases e
theorem sub_scr (ok : FxAll fx) {value slice : Expr} (hs : notSlice slice = true) {k : Int} {n : Int} {Q : V → St → Prop} (h0 : 0 ≤ k) (e : fx.ns[k.toNat]? = some n) (h : Q (.int n) σ) :
    SubT fx X value slice .scr (.int k) σ Q := by
  intro W s u₁ u₂ R r₁ r₂
  cases r₁; cases r₂
  obtain ⟨xs, h1, h2, h3⟩ := ScrAt ok R
  obtain ⟨t, hx⟩ := h2.get k.toNat n e
  have hlt : k.toNat < fx.ns.length := by
    rcases Nat.lt_or_ge k.toNat fx.ns.length with z | z
    · exact z
    · rw [List.getElem?_eq_none z] at e; cases e
  refine tail_any h1.typeIs slot_list_getitem.lookup ?_ (subscripted_plain hs _ _)
  exact wpAny_getItem_list h1 h0 (by omega) (by simpa using hx) (.here R (.int _ _) h)

theorem evSub {value slice : Expr} {pos : Pos} {Q : V → St → Prop} (h : EvE fx X value σ (fun o σ₁ => EvE fx X slice σ₁ (fun i σ₂ => SubT fx X value slice o i σ₂ Q))) : EvE fx X (.Subscript value slice pos) σ Q := by
  intro W s R
  refine Subscript_ (wpAny_mono (h W s R) ?_ fun _ _ x => x)
  refine fun u₁ s₁ zz => zz.elim fun W₁ σ₁ a le₁ R₁ r₁ h₁ => ?_
  refine wpAny_mono (h₁ W₁ s₁ R₁) ?_ fun _ _ x => x.mono le₁ fun _ _ y => y
  refine fun u₂ s₂ zz => zz.elim fun W₂ σ₂ b le₂ R₂ r₂ h₂ => ?_
  exact wpAny_mono (h₂ W₂ s₂ u₁ u₂ R₂ (r₁.mono le₂) r₂) (fun _ _ x => x.mono (le₁.trans le₂) fun _ _ y => y) fun _ _ x => x.mono (le₁.trans le₂) fun _ _ y => y

/-! a list grows -/
theorem append_ok {i : Nat} {vs : List V} {v : V} {Q : V → St → Prop} (ho : σ.hp[i]? = some (.list vs)) (hl : vs.length ≤ sizeLine) (h : Q .none ⟨σ.loc, σ.hp.set i (.list (vs ++ [v]))⟩) : CallT fx X (.builtin "list.append") [.ref i, v] σ Q := by
  intro W s us R r
  cases r with
  | cons r₁ r =>
    cases r with
    | cons r₂ r =>
      cases r
      obtain ⟨a, xs, n, rfl, ha, h2, h3⟩ := R.list_at ho r₁
      refine wpAny_list_append_plain (hsz := by simp [← h3.length]; exact hl) ⟨n, h2⟩ fun h' hp hs => ?_
      obtain ⟨n', hg⟩ := hp
      rename_i y
      refine ⟨W, _, .none, .refl _, R.upd ho ha (.list (xs := xs ++ [y]) n' (h3.append (.cons r₂ .nil))) s.toks hs.extBut (by simpa using hg), .none, h⟩

/-- a method of a built-in type is found -/
def GetM (fx : Fx) (v : V) (name : Str) (id : String) (σ : St) : Prop := ∀ W s u (pl : Sem Bool) (Q : Value × List Value → Shared → Prop) (E : Value → Shared → Prop), Rep fx σ W s → VR W v u → Q (.builtin id, [u]) s → wpAny fx.M fx.A (getMethod u name pl) Q E s

theorem getM_list {i : Nat} {vs : List V} {name : Str} {id : String} (ho : σ.hp[i]? = some (.list vs)) (slot : Slot "list" name id) (hty : typeOf (.builtin id) = pure (.type "method_descriptor")) : GetM fx (.ref i) name id σ := by
  intro W s u pl Q E R r q
  obtain ⟨a, xs, n, rfl, ha, h2, h3⟩ := R.list_at ho r
  exact getMethod_builtin ⟨_, h2, rfl⟩ PySem.F.plainAttrs_list slot hty (fun b e => by cases e; exact ⟨_, h2, rfl⟩) q

def noStar : Expr → Bool
  | .Starred .. => false
  | _ => true
theorem star_cons {e : Expr} (h : noStar e = true) (rest : List Expr) (env : Env) : starEach (e :: rest) env = (false, eval e env) :: starEach rest env := by
  cases e <;> first | rfl | cases h
theorem star_any : ∀ {es : List Expr}, es.all noStar = true → ∀ (pos : Pos) (env : Env), (backTo pos (starEach es env)).any (·.1) = false
  | [], _, _, _ => rfl
  | e :: r, h, pos, env => by
    rw [List.all_cons, Bool.and_eq_true] at h
    rw [star_cons h.1]
    have := star_any h.2 pos env
    simpa [backTo] using this

theorem evCallB (ok : FxAll fx) {f : Str} {p pos : Pos} {id : String} {e : Expr} {rest : List Expr} {Q : V → St → Prop} (hf : fx.pg.gl f = some (.builtin id)) (hk : fx.env.kindOf f = some .globalImplicit) (hd : (f == ("__debug__" : Str)) = false) (hs : (e :: rest).all noStar = true)
    (h : EvEs fx X (e :: rest) σ (fun vs σ₁ => CallT fx X (.builtin id) vs σ₁ Q)) : EvE fx X (.Call (.Name f p) (e :: rest) [] pos) σ Q := by
  intro W s R
  rw [List.all_cons, Bool.and_eq_true] at hs
  refine Call_Name rfl (ok.glb f _ p hf hk σ W s _ _ R ?_ hd)
  refine callWith_builtin1 (wpAny_mono (h W s pos R) ?_ fun _ _ x => x) (star_cons hs.1 _ _) (star_any hs.2 _ _)
  refine fun us s₁ zz => zz.elim fun W₁ σ₁ vs le₁ R₁ r₁ h₁ => ?_
  exact wpAny_mono (h₁ W₁ s₁ us R₁ r₁) (fun _ _ x => x.mono le₁ fun _ _ y => y) fun _ _ x => x.mono le₁ fun _ _ y => y
theorem evCallTy (ok : FxAll fx) {f : Str} {p pos : Pos} {T : String} {e : Expr} {rest : List Expr} {Q : V → St → Prop} (hf : fx.pg.gl f = some (.type T)) (hk : fx.env.kindOf f = some .globalImplicit) (hd : (f == ("__debug__" : Str)) = false) (hs : (e :: rest).all noStar = true)
    (h : EvEs fx X (e :: rest) σ (fun vs σ₁ => CallT fx X (.type T) vs σ₁ Q)) : EvE fx X (.Call (.Name f p) (e :: rest) [] pos) σ Q := by
  intro W s R
  rw [List.all_cons, Bool.and_eq_true] at hs
  refine Call_Name rfl (ok.glb f _ p hf hk σ W s _ _ R ?_ hd)
  refine PyProof.Rows.callWith_type1 (wpAny_mono (h W s pos R) ?_ fun _ _ x => x) (star_cons hs.1 _ _) (star_any hs.2 _ _)
  refine fun us s₁ zz => zz.elim fun W₁ σ₁ vs le₁ R₁ r₁ h₁ => ?_
  exact wpAny_mono (h₁ W₁ s₁ us R₁ r₁) (fun _ _ x => x.mono le₁ fun _ _ y => y) fun _ _ x => x.mono le₁ fun _ _ y => y

def gV : Value → V
  | .int n _ => .int n
  | .str x _ => .str x
  | .bool b => .bool b
  | .none => .none
  | v => .glob v
theorem gV_ok (W : Wd) (v : Value) : VR W (gV v) v := by
  cases v <;> simp only [gV] <;> first | exact .none | exact .bool _ | exact .int _ _ | exact .str _ _ | exact .glob _
theorem evGlob (ok : FxAll fx) {x : Str} {pos : Pos} {v : Value} {Q : V → St → Prop} (hx : fx.pg.gl x = some v) (hk : fx.env.kindOf x = some .globalImplicit) (hd : (x == ("__debug__" : Str)) = false) (h : Q (gV v) σ) : EvE fx X (.Name x pos) σ Q :=
  fun W s R => ok.glb x v pos hx hk σ W s _ _ R (.here R (gV_ok W v) h) hd

def RngP (vs : List V) (P : List V → Prop) : Prop :=
  (∃ n : Int, vs = [.int n] ∧ (-(2 ^ 62) ≤ n ∧ n < 2 ^ 62) ∧ P (rngItems 0 n.toNat)) ∨ ∃ a b : Int, vs = [.int a, .int b] ∧ ((-(2 ^ 62) ≤ a ∧ a < 2 ^ 62) ∧ (-(2 ^ 62) ≤ b ∧ b < 2 ^ 62)) ∧ P (rngItems a (b - a).toNat)
theorem iter_range (ok : FxAll fx) (hq : fx.qt = true) {f : Str} {p pos : Pos} {e : Expr} {rest : List Expr} {P : List V → (St → Prop) → St → Prop} (hf : fx.pg.gl f = some (.type "range")) (hk : fx.env.kindOf f = some .globalImplicit) (hd : (f == ("__debug__" : Str)) = false) (hs : (e :: rest).all noStar = true)
    (h : EvEs fx X (e :: rest) σ (fun vs σ₁ => RngP vs fun its => P its (fun _ => True) σ₁)) : IterT fx X (.Call (.Name f p) (e :: rest) [] pos) σ P := by
  intro W s R
  rw [List.all_cons, Bool.and_eq_true] at hs
  refine Call_Name rfl (ok.glb f _ p hf hk σ W s _ _ R ?_ hd)
  refine PyProof.Rows.callWith_type1 (wpAny_mono (h W s pos R) ?_ fun _ _ x => x) (star_cons hs.1 _ _) (star_any hs.2 _ _)
  refine fun us s₁ zz => zz.elim fun W₁ σ₁ vs le₁ R₁ r₁ hP => ?_
  have fin : ∀ (a b : Int) (t u v : Tok) (tk : Nat) (n : Nat), Builtin.Range.rangeSize a b 1 = (n : Int) → Builtin.Range.small a b 1 = true → P (rngItems a n) (fun _ => True) σ₁ →
      wpAny fx.M fx.A (pyIter (.ref s₁.heap.objs.size)) (fun it s₂ => ∃ Io st ps W' σ' its need, it = .ref Io ∧ W.le W' ∧ Src fx W' its need Io st ∧ st 0 ps ∧ ExOk fx ps ∧ Rep (fx.pushL ps) σ' W' s₂ ∧ P its need σ') (PX fx W X)
        { s₁ with heap := s₁.heap.push { cls := .type "range", data := .fields #[.int a t, .int b u, .int 1 v] }, toks := tk } := by
    intro a b t u v tk n hn hsm hP
    have R₂ := R₁.keep (h' := s₁.heap.push { cls := .type "range", data := .fields #[.int a t, .int b u, .int 1 v] }) tk fun b o e => Heap.get?_push_of_some _ e
    refine wpAny_pyIter_range (IsRange.new _ a b 1 t u v) hsm ?_
    obtain ⟨R', ok'⟩ := R₂.exPush [((s₁.heap.push { cls := .type "range", data := .fields #[.int a t, .int b u, .int 1 v] }).objs.size, ({ cls := .type "range_iterator", data := .fields #[rawInt a, rawInt (Builtin.Range.rangeSize a b 1), rawInt 1] } : Obj))] (by simp) tk
      (fun b o e => Heap.get?_push_of_some _ e) (fun p hp => by rw [List.mem_singleton.mp hp]; exact Nat.le_refl _) (fun p hp => by rw [List.mem_singleton.mp hp]; exact Heap.get?_push_size _ rfl) (R₂.locals_at ok)
    exact ⟨_, _, _, W₁, σ₁, _, _, rfl, le₁, src_range (ok.ok.handled hq), by simp only [rngItSt, hn]; simp, ok', R', hP⟩
  rcases hP with ⟨m, rfl, hok, hP⟩ | ⟨m, m', rfl, hok, hP⟩
  · cases r₁ with
    | cons r r' =>
      cases r'; cases r
      refine call_range_1 (fin 0 m _ _ _ _ _ ?_ (small_one (by decide) (by decide) hok.1 hok.2) hP)
      rw [rangeSize_one]; split <;> omega
  · cases r₁ with
    | cons r r' =>
      cases r' with
      | cons r₂ r' =>
        cases r'; cases r; cases r₂
        refine call_range_2 (fin m m' _ _ _ _ _ ?_ (small_one hok.1.1 hok.1.2 hok.2.1 hok.2.2) hP)
        rw [rangeSize_one]; split <;> omega

theorem iter_val {iter : Expr} {P : List V → (St → Prop) → St → Prop} (h : EvE fx X iter σ (fun v σ₁ => SrvT fx v σ₁ P)) : IterT fx X iter σ P := by
  intro W s R
  refine wpAny_mono (h W s R) ?_ fun _ _ x => x
  refine fun u s₁ zz => zz.elim fun W₁ σ₁ v le₁ R₁ r₁ h₁ => ?_
  refine wpAny_mono (h₁ W₁ s₁ u (PX fx W X) R₁ r₁) ?_ fun _ _ x => x
  rintro it s₂ ⟨Io, st, ps, W', σ', its, need, a, b, c⟩
  exact ⟨Io, st, ps, W', σ', its, need, a, le₁.trans b, c⟩
end
end Mine

set_option autoImplicit false
namespace Mine
open PySem PySem.W PySem.Calls PySem.Spec PyProof.Rows

def retV : Fl → V
  | .ret v => v
  | _ => .none
def flowV : Flow → Value
  | .ret v => v
  | _ => .none
theorem retV_ok {W : Wd} {fl : Fl} {f : Flow} (h : FlR W fl f) : VR W (retV fl) (flowV f) := by
  cases h <;> first | exact .none | assumption

def bindV : List Str → List V → (Str → Option V) → Str → Option V
  | x :: xs, v :: vs, l => bindV xs vs (setN l x v)
  | _, _, l => l

/-- a def of the text, called -/
def CallOK (pg : Pg) (lev : Nat) (qt : Bool) (ns : List Int) (f : Addr) (vs : List V) (hp : List O) (X : Value → List O → Prop) (Q : V → List O → Prop) : Prop :=
  ∀ fx : Fx, FxAll fx → fx.pg = pg → lev ≤ fx.lev → fx.ns = ns → (qt = true → fx.qt = true) → ∀ loc, CallT fx (fun cls σ' => σ'.loc = loc ∧ X cls σ'.hp) (.ref f) vs ⟨loc, hp⟩ (fun v σ' => σ'.loc = loc ∧ Q v σ'.hp)

/-- where a def lies, and what it is -/
structure FnAt (pg : Pg) (f : Addr) (xs : List Str) (body : List Stmt) (scope : Scope) : Prop where
  data : ∃ name qual params dV kV doc pm an cdv ct oc od osl, pg.K.lookup f = some ⟨oc, od, .func (fnOf name qual params body scope dV kV doc pm an cdv ct), osl⟩ ∧ codeIn pg.K cdv qual = true ∧
    (∀ us : List Value, us.length = xs.length → bindArgs (fnOf name qual params body scope dV kV doc pm an cdv ct) ⟨us, []⟩ = pure (xs.zip us))
  kinds : ∀ x ∈ xs, scope.names.lookup x = some .local ∨ scope.names.lookup x = some .cell
  cells : ((cellsFrom 0 scope.names []).map (·.1)).Nodup
  hco : scope.isCoroutine = false
  hgen : scope.isGenerator = false
  hk : scope.kind = .function

theorem cf_some {x : Str} : ∀ (names : List (Str × NameKind)) (n : Nat) (acc : List (Str × Addr)), names.lookup x = some .cell ∨ (acc.lookup x).isSome = true → ((cellsFrom n names acc).lookup x).isSome = true
  | [], _, _, h => h.elim (fun e => by cases e) id
  | (y, k) :: r, n, acc, h => by
    unfold cellsFrom
    by_cases hk : (k == .cell) = true
    · rw [if_pos hk]
      refine cf_some r (n + 1) ((y, n) :: acc) ?_
      by_cases hy : (x == y) = true
      · exact .inr (by rw [List.lookup_cons, hy]; rfl)
      · refine h.imp (fun e => ?_) fun e => ?_
        · rw [List.lookup_cons] at e; simpa only [hy] using e
        · rw [List.lookup_cons]; simpa only [hy] using e
    · rw [if_neg hk]
      refine cf_some r n acc ?_
      by_cases hy : (x == y) = true
      · refine .inr (h.elim (fun e => ?_) id)
        rw [List.lookup_cons, hy] at e
        exact absurd (by rw [Option.some.inj e]; rfl) hk
      · refine h.imp (fun e => ?_) id
        rw [List.lookup_cons] at e; simpa only [hy] using e

theorem cf_addr : ∀ (names : List (Str × NameKind)) (n lo : Nat) (acc : List (Str × Addr)), lo ≤ n → (acc.map (·.2)).Nodup → (∀ p ∈ acc, lo ≤ p.2 ∧ p.2 < n) →
    ((cellsFrom n names acc).map (·.2)).Nodup ∧ ∀ p ∈ cellsFrom n names acc, lo ≤ p.2
  | [], _, _, _, _, h, h' => ⟨h, fun p hp => (h' p hp).1⟩
  | (y, k) :: r, n, lo, acc, hl, h, h' => by
    unfold cellsFrom
    split
    · refine cf_addr r (n + 1) lo ((y, n) :: acc) (Nat.le_succ_of_le hl) ?_ fun p hp => ?_
      · rw [List.map_cons, List.nodup_cons]
        refine ⟨fun hm => ?_, h⟩
        obtain ⟨p, hp, e⟩ := List.mem_map.mp hm
        have := (h' p hp).2
        exact absurd this (by rw [show p.2 = n from e]; exact Nat.lt_irrefl _)
      · rcases List.mem_cons.mp hp with rfl | hp
        · exact ⟨hl, Nat.lt_succ_self _⟩
        · exact ⟨(h' p hp).1, Nat.lt_succ_of_lt (h' p hp).2⟩
    · exact cf_addr r n lo acc hl h h'

theorem lookup_mem {α β : Type} [BEq α] [LawfulBEq α] : ∀ {l : List (α × β)} {x : α} {y : β}, l.lookup x = some y → (x, y) ∈ l
  | (a, b) :: r, x, y, h => by
    rw [List.lookup_cons] at h
    split at h
    · rename_i e
      cases h
      rw [eq_of_beq e]
      exact .head _
    · exact .tail _ (lookup_mem h)

theorem snd_inj {α β : Type} : ∀ {l : List (α × β)}, (l.map (·.2)).Nodup → ∀ {x y : α} {c : β}, (x, c) ∈ l → (y, c) ∈ l → x = y
  | [], _, _, _, _, h, _ => by cases h
  | (a, b) :: r, nd, x, y, c, h, h' => by
    rw [List.map_cons, List.nodup_cons] at nd
    rcases List.mem_cons.mp h with e | h
    · rcases List.mem_cons.mp h' with e' | h'
      · rw [← e'] at e; cases e; rfl
      · cases e; exact absurd (List.mem_map.mpr ⟨_, h', rfl⟩) nd.1
    · rcases List.mem_cons.mp h' with e' | h'
      · cases e'; exact absurd (List.mem_map.mpr ⟨_, h, rfl⟩) nd.1
      · exact snd_inj nd.2 h h'

theorem cellsAre_keys {cm : Str → Option Value} : ∀ {cs : List (Str × Addr)} {cells : List (Addr × Obj)}, CellsAre cm cs cells → cells.map (·.1) = cs.map (·.2)
  | _, _, .nil => rfl
  | _, _, .cons _ r => by simp [cellsAre_keys r]
theorem cellsAre_at {cm : Str → Option Value} : ∀ {cs : List (Str × Addr)} {cells : List (Addr × Obj)}, CellsAre cm cs cells → ∀ {x : Str} {c : Addr}, (x, c) ∈ cs → ∃ o, (c, o) ∈ cells ∧ o.data = .cell (cm x)
  | _, _, .nil => fun h => by cases h
  | _, _, .cons hd r => fun h => by
    rcases List.mem_cons.mp h with e | h
    · cases e; exact ⟨_, .head _, hd⟩
    · obtain ⟨o, h1, h2⟩ := cellsAre_at r h
      exact ⟨o, .tail _ h1, h2⟩

theorem bind_rel {W : Wd} {kindOf : Str → Option NameKind} : ∀ {xs : List Str} {vs : List V} {us : List Value}, VRs W vs us → (∀ x ∈ xs, kindOf x = some .local ∨ kindOf x = some .cell) → ∀ (l : Str → Option V) (m cm : Str → Option Value),
    (∀ y v, l y = some v → ∃ u, VR W v u ∧ ((kindOf y = some .local ∧ m y = some u) ∨ (kindOf y = some .cell ∧ cm y = some u))) →
    ∀ y v, bindV xs vs l y = some v → ∃ u, VR W v u ∧ ((kindOf y = some .local ∧ bindL kindOf (xs.zip us) m y = some u) ∨ (kindOf y = some .cell ∧ bindC kindOf (xs.zip us) cm y = some u))
  | [], _, _, _, _, l, m, cm, h, y, v, e => by
    rw [show bindV [] _ l = l by unfold bindV; rfl] at e
    simpa [bindL, bindC] using h y v e
  | x :: xs, _, _, .nil, _, l, m, cm, h, y, v, e => by
    rw [show bindV (x :: xs) [] l = l by unfold bindV; rfl] at e
    simpa [bindL, bindC] using h y v e
  | x :: xs, _, _, .cons (v := v₀) (vs := vs) (x := u₀) (xs := us) r rs, hk, l, m, cm, h, y, v, e => by
    rw [show bindV (x :: xs) (v₀ :: vs) l = bindV xs vs (setN l x v₀) by rfl] at e
    rw [List.zip_cons_cons]
    simp only [bindL, bindC]
    refine bind_rel rs (fun z hz => hk z (.tail _ hz)) (setN l x v₀) _ _ (fun z w hw => ?_) y v e
    unfold setN at hw
    split at hw
    · rename_i q
      subst q
      cases hw
      refine ⟨u₀, r, ?_⟩
      rcases hk z (.head _) with q | q
      · exact .inl ⟨q, by simp [q]⟩
      · exact .inr ⟨q, by simp [q]⟩
    · rename_i q
      obtain ⟨u, h1, h2⟩ := h z w hw
      refine ⟨u, h1, ?_⟩
      rcases h2 with ⟨a, b⟩ | ⟨a, b⟩
      · refine .inl ⟨a, ?_⟩
        split
        · simp [q, b]
        · exact b
      · refine .inr ⟨a, ?_⟩
        split
        · exact b
        · simp [q, b]

/-- a def is entered -/
theorem enterX {prog : Program} {w : World} {A₀ A : Around} {s : Shared} {base h₀ : Heap} {outer : List Env} {L : Addr} {m : Str → Option Value} {env : Env} {news : List (Addr × Obj)}
    {R : Result → Shared → Prop} {name qual : Str} {params : Arguments} {body : List Stmt} {scope : Scope} {dV kV doc pm cdv ct : Value} {an : Option Addr} {fo : Obj} {f : Addr} {args : Args} {binds : List (Str × Value)}
    (B : Below A₀ base outer h₀) (F : Fr h₀ L s.heap m) (N : News h₀ L s.heap news) (hlim : s.heap.NoLimit) (hA : A.frames = some (env :: outer)) (hf : env.frame = some L) (hke : env.scope.kind = .function)
    (ho : s.heap.get? f = some fo) (hd : fo.data = .func (fnX name qual params body scope [] dV kV doc pm an cdv ct)) (hcd : s.heap.CodeRec cdv qual) (hroom : A.depth < recursionLimit)
    (hbind : BindsTo s (fnX name qual params body scope [] dV kV doc pm an cdv ct) args binds)
    (hkind : ∀ n, ∀ x ∈ binds, scope.names.lookup x.1 = some .local ∨ (scope.names.lookup x.1 = some .cell ∧ ((cellsFrom n scope.names []).lookup x.1).isSome = true))
    (hnd : ((cellsFrom 0 scope.names []).map (·.1)).Nodup)
    (h : ∀ g L' h₁ tk cells, Fr h₀ L g m → Fr g L' h₁ (bindL (envOfC qual scope L' f cdv).kindOf binds fun _ => none) → News g L' h₁ (cells ++ news) →
      CellsAre (bindC (envOfC qual scope L' f cdv).kindOf binds fun _ => none) (cellsFrom (L' + 1) scope.names []) cells → Below A base (env :: outer) g → h₀.StaysIn g → (∀ p ∈ news, p.1 < L') →
      wpAny (model prog w) (A.deeper (envOfC qual scope L' f cdv)) (execs body (envOfC qual scope L' f cdv))
        (fun fl s' => R (.ok (.ret (match fl with | .ret v => v | _ => .none))) s')
        (fun e s' => wpAny (model prog w) (A.deeper (envOfC qual scope L' f cdv)) (leaving (envOfC qual scope L' f cdv) e) (fun _ s'' => R (.error e) s'') (fun e' s'' => R (.error e') s'') s')
        { s with heap := h₁, toks := tk })
    (hco : scope.isCoroutine = false) (hgen : scope.isGenerator = false) (hk : scope.kind = .function) : codeAny (model prog w) A (.call (.ref f) args) R s := by
  obtain ⟨FG, BG, st, _⟩ := groundX (R := R) B F N hA hf hke
  refine codeAny_call_function hroom ho hd hco hgen rfl hcd (hbind _ _ _ _ ?_)
  refine wpAny_newFunctionEnv_cells hk (hkind _) fun env' he s' x => ?_
  subst he
  refine ⟨hlim.keeps x.toInCall.keep, codeAny_func ?_⟩
  obtain ⟨h₁, tk, rfl, _⟩ := x.done
  have hk₁ := x.toInCall.keep
  obtain ⟨cells, NC, Y⟩ := Cl.news (h₀ := s.heap) (Nat.le_refl _) fun n c hm => ⟨x.cell n c (lookup_of_mem_nodup (cellsFrom_names scope.names 0 (s.heap.objs.size + 1) [] [] rfl ▸ hnd) hm), x.above n c hm⟩
  refine wpAny_mono (h _ s.heap.objs.size h₁ tk cells FG ⟨x.toInCall.ns, fun b o e => hk₁ b o (of_hideAll _ e), Nat.le_of_eq (hideAll_size _ _)⟩ (fun p hp => ?_) Y BG st (fun p hp => Heap.lt_size (N p hp).1)) (fun fl s' hl => hl) fun _ _ y => y
  rcases List.mem_append.mp hp with hp | hp
  · refine ⟨(NC p hp).1, (NC p hp).2.1, ?_⟩
    cases q : (hideAll s.heap (news.map (·.1))).get? p.1 with
    | none => rfl
    | some o => have := of_hideAll _ q; rw [(NC p hp).2.2] at this; cases this
  · exact ⟨hk₁ _ _ (N p hp).1, Nat.ne_of_lt (Heap.lt_size (N p hp).1), hideAll_none _ (List.mem_map_of_mem hp)⟩

/-- the caller's ground, behind a call -/
theorem backG {outer : List Env} {env : Env} {L L' : Addr} {gc g g' h' h : Heap} {m m' : Str → Option Value} {news' : List (Addr × Obj)} (hf : env.frame = some L) (F : Fr gc L h m) (D : KtsDicts (outer.filterMap (·.frame)) gc) (FG : Fr gc L g m)
    (T : KtsTurn ((env :: outer).filterMap (·.frame)) g g') (F' : Fr g' L' h' m') (N' : News g' L' h' news') :
    ∃ g₁, KtsTurn (outer.filterMap (·.frame)) gc g₁ ∧ Fr g₁ L h' m ∧ News g₁ L h' news' := by
  have nL : gc.get? L = none := ground_self F.above
  obtain ⟨oL, es, ep, hLg, hLd, hLk, hLf⟩ := FG.ns
  obtain ⟨sl, hs⟩ := T.up hLg
  obtain ⟨T₁, S₁⟩ := kts_turn_at (h := h') (fs := outer.filterMap (·.frame)) (g := gc) (fun b hb => let ⟨o, _, _, h1, _⟩ := D b hb; ⟨o, h1⟩)
    (fun b o e nm => F'.keep b o (T.other b o (FG.keep b o e) (fun q => by
      rcases mem_frames hf q with z | z
      · rw [z, nL] at e; cases e
      · exact nm z)))
    (fun b o e _ => by
      obtain ⟨sl', hs'⟩ := T.up (FG.keep b o e)
      exact ⟨sl', F'.keep _ _ hs'⟩)
  refine ⟨_, T₁, ⟨⟨_, es, ep, F'.keep _ _ hs, hLd, hLk, hLf⟩, S₁, by rw [T₁.size]; exact F.above⟩, fun p hp => ⟨(N' p hp).1, fun q => ?_, T₁.none_ _ ?_⟩⟩
  · have := (N' p hp).2.2; rw [q, hs] at this; cases this
  · cases q : gc.get? p.1 with
    | none => rfl
    | some o =>
      obtain ⟨sl', hs'⟩ := T.up (FG.keep _ _ q)
      have := (N' p hp).2.2
      rw [hs'] at this
      cases this

theorem callOK_of {pg : Pg} {f : Addr} {xs : List Str} {body : List Stmt} {scope : Scope} (D : FnAt pg f xs body scope) {lev : Nat} {qt : Bool} {ns : List Int} {vs : List V} {hp : List O} {X : Value → List O → Prop} {Q : V → List O → Prop} (hl : vs.length = xs.length)
    (h : ∀ fx' : Fx, FxAll fx' → fx'.pg = pg → fx'.ns = ns → fx'.lev = lev → (qt = true → fx'.qt = true) → fx'.env.scope = scope → fx'.env.locals = fx'.L → EvSs fx' (fun cls σ' => X cls σ'.hp) body ⟨bindV xs vs (fun _ => none), hp⟩ (fun fl σ' => Q (retV fl) σ'.hp)) :
    CallOK pg (lev + 1) qt ns f vs hp X Q := by
  rintro fx all rfl hlev hns hqt loc W s us R r
  have stB := all.stays R
  refine R.elim fun er gc m news G F N C => ?_
  obtain ⟨BL, DC⟩ := all.ground G
  obtain ⟨name, qual, params, dV, kV, doc, pm, an, cdv, ct, oc, od, osl, ho, hcd, hbind⟩ := D.data
  have X' := all.part.keeps stB
  have hlen : us.length = xs.length := r.length ▸ hl
  refine wpAny_call (enterX (news := news) (name := name) (qual := qual) (params := params) (body := body) (scope := scope) BL F N (all.top.nolimit.keeps stB) all.frs all.ffr all.fkd (X' _ _ ho) rfl (codeRec_of X' hcd) (by have := all.depth; omega)
    (BindsTo.of_eq (hbind us hlen)) ?_ D.cells ?_ D.hco D.hgen D.hk)
  · intro n x hx
    have hx' : x.1 ∈ xs := (List.of_mem_zip (a := x.1) (b := x.2) hx).1
    rcases D.kinds x.1 hx' with q | q
    · exact .inl q
    · exact .inr ⟨q, cf_some _ _ _ (.inl q)⟩
  intro g L' h₁ tk cells FG F' N' Y B' st lt
  have keysC := cellsAre_keys Y
  have cfa := cf_addr scope.names (L' + 1) (L' + 1) [] (Nat.le_refl _) (by simp) (fun p hp => by cases hp)
  let cf : Addr × Obj → Bool := fun p => fx.env.cells.any fun q => decide (fx.env.cells.lookup q.1 = some p.1)
  let fx' : Fx := { pg := fx.pg, A := fx.A.deeper (envOfC qual scope L' f cdv), env := envOfC qual scope L' f cdv, fenv := envOfC qual scope L' f cdv, outer := fx.fenv :: fx.outer, A₀ := fx.A, base := fx.base, h₀ := g, L := L',
                    ex := fx.ex ++ news.filter cf, s₀ := fx.s₀, sc := fx.sc, ns := fx.ns, lev := lev, mfix := none, qt := fx.qt }
  have exN : ∀ p ∈ fx'.ex, p ∈ news := fun p hp => (List.mem_append.mp hp).elim (C.exs p) fun q => (List.mem_filter.mp q).1
  have cellIn : ∀ x c o, fx.env.cells.lookup x = some c → (c, o) ∈ news → (c, o) ∈ fx'.ex := fun x c o h1 h2 =>
    List.mem_append_right _ (List.mem_filter.mpr ⟨h2, List.any_eq_true.mpr ⟨_, lookup_mem h1, decide_eq_true h1⟩⟩)
  have exAl : ∀ p ∈ fx'.ex, p.1 ∉ W.al := fun p hp => (List.mem_append.mp hp).elim (C.exd p) fun q => by
    obtain ⟨e, _, e1⟩ := List.any_eq_true.mp (List.mem_filter.mp q).2
    exact (C.cel _ _ (of_decide_eq_true e1)).1
  have exTp : ∀ p ∈ fx'.ex, ∀ t ∈ W.tp, p.1 ≠ t.1 := fun p hp t ht => (List.mem_append.mp hp).elim (fun q => C.ext p q t ht) fun q z => by
    obtain ⟨e, _, e1⟩ := List.any_eq_true.mp (List.mem_filter.mp q).2
    obtain ⟨_, o, v, h2, h3⟩ := C.cel _ _ (of_decide_eq_true e1)
    have h4 := C.tps t ht
    rw [← z] at h4
    rw [key_inj C.nd h2 h4] at h3
    cases h3
  have cellAt : ∀ x c, (cellsFrom (L' + 1) scope.names []).lookup x = some c → ∃ o, (c, o) ∈ cells ∧ o.data = .cell (bindC (envOfC qual scope L' f cdv).kindOf (xs.zip us) (fun _ => none) x) := fun x c h => cellsAre_at Y (lookup_mem h)
  have newC : ∀ p ∈ cells, ∀ q ∈ news, q.1 < p.1 := fun p hp q hq => by
    have h1 : p.1 ∈ (cellsFrom (L' + 1) scope.names []).map (·.2) := keysC ▸ List.mem_map_of_mem (f := (·.1)) hp
    obtain ⟨e, he, e1⟩ := List.mem_map.mp h1
    have h2 := cfa.2 e he
    have h3 := lt q hq
    rw [← e1]
    exact Nat.lt_of_lt_of_le h3 (Nat.le_of_succ_le h2)
  have all' : FxAll fx' := {
    ok := ⟨D.hk, all.ok.handled⟩
    locs := .inl rfl
    cex := fun _ x c h p hp q => by
      obtain ⟨o, ho, _⟩ := cellAt x c h
      exact absurd (newC _ ho p (exN p hp)) (by rw [q]; exact Nat.lt_irrefl _)
    cinj := fun x y c h h' => snd_inj cfa.1 (lookup_mem h) (lookup_mem h')
    cdef := fun x h q => by
      have := cf_some (x := x) scope.names (L' + 1) [] (.inl h)
      rw [show (cellsFrom (L' + 1) scope.names []).lookup x = none from q] at this
      cases this
    scr := all.scr
    egl := rfl
    ebu := rfl
    top := all.top
    part := all.part
    below := B'
    dicts := fun b hb => by
      rcases mem_frames all.ffr hb with rfl | z
      · obtain ⟨oL, es, ep, hL, hd, _⟩ := FG.ns
        exact ⟨oL, es, ep, hL, hd⟩
      · obtain ⟨o, es, n, h1, h2⟩ := DC b z
        exact ⟨o, es, n, FG.keep _ _ h1, h2⟩
    frs := by show (fx.A.frames.map _) = _; rw [all.frs]; rfl
    ffr := rfl
    fkd := D.hk
    depth := by show fx.A.depth + 1 + lev < recursionLimit; have := all.depth; omega
    room := by show fx.A.units + 3 + 8 * lev + 100 < cLine; have := all.room; omega
    mfn := fun _ => rfl
    envf := fun _ => rfl }
  have R' : Rep fx' ⟨bindV xs vs (fun _ => none), hp⟩ W { s with heap := h₁, toks := tk } := by
    refine ⟨rest_with er _ _, _, _, cells ++ news, .refl, F', N', ?_, fun p hp => List.mem_append_right _ (exN p hp), exAl, C.aln, C.len, fun i o h => ?_, fun t ht => List.mem_append_right _ (C.tps t ht), fun x v h => ?_, fun x c h => ?_, C.scc, fun _ q => (by cases q), fun p hp t ht => ?_⟩
    · rw [List.map_append, keysC]
      refine List.nodup_append.mpr ⟨cfa.1, C.nd, fun a ha b hb q => ?_⟩
      rw [← keysC] at ha
      obtain ⟨p, hp, rfl⟩ := List.mem_map.mp ha
      obtain ⟨p', hp', rfl⟩ := List.mem_map.mp hb
      exact absurd (newC p hp p' hp') (by rw [q]; exact Nat.lt_irrefl _)
    · obtain ⟨a, ob, h1, h2, h3⟩ := C.obs i o h
      exact ⟨a, ob, h1, List.mem_append_right _ h2, h3⟩
    · obtain ⟨u, h1, h2⟩ := bind_rel (kindOf := (envOfC qual scope L' f cdv).kindOf) r D.kinds (fun _ => none) (fun _ => none) (fun _ => none) (fun y v h => by cases h) x v h
      refine ⟨u, h1, ?_⟩
      rcases h2 with ⟨k1, k2⟩ | ⟨k1, k2⟩
      · exact .loc k1 rfl k2
      · have hs := cf_some (x := x) scope.names (L' + 1) [] (.inl k1)
        obtain ⟨c, hc⟩ := Option.isSome_iff_exists.mp hs
        obtain ⟨o, ho, hd⟩ := cellAt x c hc
        exact .cell (.inl k1) hc (List.mem_append_left _ ho) (by rw [hd, k2])
    · obtain ⟨o, ho, hd⟩ := cellAt x c h
      refine ⟨fun hm => ?_, o, _, List.mem_append_left _ ho, hd⟩
      obtain ⟨o', ho'⟩ := C.al_lt hm
      exact absurd (newC _ ho _ ho') (Nat.lt_irrefl _)
    · exact exTp p hp t ht
  have coreBack : ∀ {σ' : St} {W' : Wd} {m' : Str → Option Value} {news' : List (Addr × Obj)}, W.le W' → Core fx' σ' W' m' news' → Core fx ⟨loc, σ'.hp⟩ W' m news' := by
    intro σ' W' m' news' le' C''
    refine ⟨C''.nd, fun p hp => C''.exs p (List.mem_append_left _ hp), fun p hp => C''.exd p (List.mem_append_left _ hp), C''.aln, C''.len, C''.obs, C''.tps, fun x v h => ?_, fun x c h => ?_, C''.scc, fun m₀ q => C.mfx m₀ q, fun p hp t ht => C''.ext p (List.mem_append_left _ hp) t ht⟩
    · obtain ⟨u, h1, h2⟩ := C.loc x v h
      refine ⟨u, h1.mono le', ?_⟩
      cases h2 with
      | loc a b c => exact .loc a b c
      | comp a b c => exact .comp a b c
      | cell a b c d => exact .cell a b (C''.exs _ (cellIn _ _ _ b c)) d
    · obtain ⟨_, o, v, h2, h3⟩ := C.cel x c h
      have hin := cellIn x c o h h2
      exact ⟨C''.exd _ hin, o, v, C''.exs _ hin, h3⟩
  refine wpAny_mono (h fx' all' rfl hns rfl hqt rfl rfl W _ R') ?_ ?_
  · refine fun fl s' zz => zz.elim fun W' σ' fl' le' R'' r'' q'' => ?_
    refine R''.elim fun er' g' m' news' G' F'' N'' C'' => ?_
    obtain ⟨g₁, T₁, F₁, N₁⟩ := backG all.ffr F DC FG G' F'' N''
    have hv := retV_ok r''
    exact ⟨W', ⟨loc, σ'.hp⟩, retV fl', le', ⟨er', g₁, m, news', G.trans T₁, F₁, N₁, coreBack le' C''⟩, (by cases fl <;> exact hv), rfl, q''⟩
  · rintro u s' ⟨e, cls, k, W', σ', rfl, le', ⟨er', g', m', news', B, c, f⟩, hX⟩
    refine leaveFly (L₁ := fx.L) all'.frs rfl f fun h'' f'' u'' => ?_
    have c' := c.up rfl f''.stays.1 u''
    obtain ⟨oL, es, ep, hLg, hLd, hLk, hLf⟩ := FG.ns
    obtain ⟨sl, hs⟩ := c.turn.up hLg
    obtain ⟨sl', hs'⟩ := c'.fr _ _ hs
    refine ⟨e, cls, .fly, W', ⟨loc, σ'.hp⟩, rfl, le', ⟨rest_heap er' _, gc, m, news', B, ⟨G, DC, F.above, ⟨_, es, ep, hs', hLd, hLk, hLf⟩, fun b o q nm => ?_, fun b o q => ?_, fun p hp => ⟨(c.nw p hp).1, fun q => ?_, ?_⟩, coreBack le' c.core, c.base⟩, f''⟩, rfl, hX⟩
    · have q' := c.turn.other b o (FG.keep b o q) nm
      refine c.gB b o q' fun hm => ?_
      rcases mem_frames (show fx'.fenv.frame = some L' from rfl) hm with z | z
      · rw [z, ground_self c.size] at q'
        cases q'
      · exact nm z
    · obtain ⟨s1, q1⟩ := c.turn.up (FG.keep b o q)
      obtain ⟨s2, q2⟩ := c'.fr _ _ q1
      exact ⟨s2, q2⟩
    · have := (c.nw p hp).2.2
      rw [q, hs] at this
      cases this
    · cases q : gc.get? p.1 with
      | none => rfl
      | some o =>
        obtain ⟨s1, q1⟩ := c.turn.up (FG.keep _ _ q)
        have := (c.nw p hp).2.2
        rw [q1] at this
        cases this

end Mine

set_option autoImplicit false
namespace Mine
open PySem PySem.W PySem.Calls PySem.Spec PyProof.Rows

theorem pushL_pushL (fx : Fx) (qs ps : List (Addr × Obj)) : (fx.pushL qs).pushL ps = fx.pushL (ps ++ qs) := by
  simp only [Fx.pushL, List.append_assoc]
theorem ExOk.join {fx : Fx} {qs ps : List (Addr × Obj)} (a : ExOk fx qs) (b : ExOk (fx.pushL qs) ps) : ExOk fx (ps ++ qs) where
  nd := by
    rw [List.map_append]
    refine List.nodup_append.mpr ⟨b.nd, a.nd, fun x hx y hy e => ?_⟩
    obtain ⟨p, hp, rfl⟩ := List.mem_map.mp hy
    exact b.dis p (List.mem_append_left _ hp) (e ▸ hx)
  dis := fun p hp q => by
    rw [List.map_append] at q
    exact (List.mem_append.mp q).elim (b.dis p (List.mem_append_right _ hp)) (a.dis p hp)
  cel := fun x c h q => by
    rw [List.map_append] at q
    exact (List.mem_append.mp q).elim (b.cel x c h) (a.cel x c h)
  loc := fun q => by
    rw [List.map_append] at q
    exact (List.mem_append.mp q).elim b.loc a.loc
theorem ExOk.keys {fx : Fx} {ps ps' : List (Addr × Obj)} (a : ExOk fx ps) (h : ps'.map (·.1) = ps.map (·.1)) : ExOk fx ps' := ⟨h ▸ a.nd, h ▸ a.dis, h ▸ a.cel, h ▸ a.loc⟩
theorem ExOk.left {fx : Fx} {qs qs' ps : List (Addr × Obj)} (h : qs'.map (·.1) = qs.map (·.1)) (b : ExOk (fx.pushL qs) ps) : ExOk (fx.pushL qs') ps where
  nd := b.nd
  dis := fun p hp q => by
    rcases List.mem_append.mp hp with hp | hp
    · have : p.1 ∈ qs.map (·.1) := h ▸ List.mem_map_of_mem (f := (·.1)) hp
      obtain ⟨o, ho⟩ := mem_keys this
      exact b.dis _ (List.mem_append_left _ ho) q
    · exact b.dis p (List.mem_append_right _ hp) q
  cel := b.cel
  loc := b.loc

def NsObj (o : Obj) : Prop := ∃ es ep, o.data = .dict es ep ∧ StrKeys es
/-- the names that a comprehension has bound -/
def CLR (W : Wd) (l : Str → Option V) (o : Obj) : Prop := ∀ y v, l y = some v → ∃ u, VR W v u ∧ NsSays o y u
/-- a comprehension's scope within its frame -/
structure CompOk (env : Env) (scope : Scope) : Prop where
  kind : scope.kind = .function
  nocell : ∀ y ∈ scope.names, y.2 ≠ .cell
  names : ∀ y ∈ scope.names, y.2 = .local → scope.names.lookup y.1 = some .local
  frees : ∀ y ∈ scope.names, y.2 = .free → scope.names.lookup y.1 = some .free
  free : ∀ n, scope.names.lookup n = some .free → env.kindOf n = some .cell

def clOf (env : Env) : List (Str × NameKind) → List (Str × Addr) → List (Str × Addr)
  | [], acc => acc
  | (n, k) :: r, acc => if k == .free then clOf env r ((n, (env.cells.lookup n).getD 0) :: acc) else clOf env r acc

theorem clOf_prop {env : Env} : ∀ (names : List (Str × NameKind)) (acc : List (Str × Addr)), (∀ n, (n, NameKind.free) ∈ names → env.cells.lookup n ≠ none) → (∀ p ∈ acc, env.cells.lookup p.1 = some p.2) →
    ∀ p ∈ clOf env names acc, env.cells.lookup p.1 = some p.2
  | [], _, _, h => h
  | (n, k) :: r, acc, hn, h => by
    unfold clOf
    split
    · rename_i hk
      have hk' : k = .free := by simpa using hk
      subst hk'
      refine clOf_prop r _ (fun m hm => hn m (.tail _ hm)) fun p hp => ?_
      rcases List.mem_cons.mp hp with rfl | hp
      · have := hn n (.head _)
        cases q : env.cells.lookup n with
        | none => exact absurd q this
        | some c => simp
      · exact h p hp
    · exact clOf_prop r acc (fun m hm => hn m (.tail _ hm)) h

theorem clOf_some {env : Env} {x : Str} : ∀ (names : List (Str × NameKind)) (acc : List (Str × Addr)), (x, NameKind.free) ∈ names ∨ (acc.lookup x).isSome = true → ((clOf env names acc).lookup x).isSome = true
  | [], _, h => h.elim (fun e => by cases e) id
  | (n, k) :: r, acc, h => by
    unfold clOf
    split
    · rename_i hk
      refine clOf_some r _ ?_
      by_cases hy : (x == n) = true
      · exact .inr (by rw [List.lookup_cons, hy]; rfl)
      · refine h.imp (fun e => ?_) fun e => ?_
        · rcases List.mem_cons.mp e with e | e
          · cases e; simp at hy
          · exact e
        · rw [List.lookup_cons]; simpa only [hy] using e
    · rename_i hk
      refine clOf_some r acc (h.imp (fun e => ?_) id)
      rcases List.mem_cons.mp e with e | e
      · cases e; exact absurd rfl hk
      · exact e

theorem closure_ok {env : Env} {scope : Scope} (h : ∀ n, (n, NameKind.free) ∈ scope.names → env.cells.lookup n ≠ none) : closureFor scope env = pure (clOf env scope.names []) := by
  unfold closureFor
  have key : ∀ (names : List (Str × NameKind)) (acc : List (Str × Addr)), (∀ n, (n, NameKind.free) ∈ names → env.cells.lookup n ≠ none) →
      (forIn names acc fun (x : Str × NameKind) (r : List (Str × Addr)) => if (x.2 == NameKind.free) = true then (do let c ← cellOf env x.1; pure (ForInStep.yield ((x.1, c) :: r)) : Sem (ForInStep (List (Str × Addr)))) else pure (ForInStep.yield r)) = (pure (clOf env names acc) : Sem _) := by
    intro names
    induction names with
    | nil => intro acc _; rfl
    | cons p r ih =>
      obtain ⟨n, k⟩ := p
      intro acc hn
      rw [List.forIn_cons]
      unfold clOf
      by_cases hk : (k == NameKind.free) = true
      · have hk' : k = .free := by simpa using hk
        subst hk'
        have hc := hn n (.head _)
        cases q : env.cells.lookup n with
        | none => exact absurd q hc
        | some c =>
          have e1 : cellOf env n = pure c := by unfold cellOf; rw [q]
          simp only [e1, if_true, pure_bind, beq_self_eq_true, Option.getD_some]
          exact ih _ fun m hm => hn m (.tail _ hm)
      · simp only [hk, if_false, pure_bind, Bool.false_eq_true]
        exact ih _ fun m hm => hn m (.tail _ hm)
  have := key scope.names [] h
  simpa using this

def compLoc (scope : Scope) (loc : Str → Option V) : Str → Option V := fun y => if scope.names.lookup y = some .free then loc y else none

theorem relabel_lookup (scope : Scope) (env : Env) (y : Str) : (relabel scope env).names.lookup y = (scope.names.lookup y).map fun k => if (k == .free && env.scope.kind == .function && env.kindOf y == some .cell) then .cell else k := by
  unfold relabel
  dsimp only
  induction scope.names with
  | nil => rfl
  | cons p r ih =>
    obtain ⟨n, k⟩ := p
    simp only [List.map_cons]
    by_cases hy : (y == n) = true
    · have : y = n := by simpa using hy
      subst this
      by_cases hc : (k == NameKind.free && env.scope.kind == .function && env.kindOf y == some .cell) = true
      · rw [if_pos hc]; simp only [List.lookup_cons, beq_self_eq_true, Option.map_some, hc, if_true]
      · rw [if_neg hc]; simp only [List.lookup_cons, beq_self_eq_true, Option.map_some, hc]; simp
    · have hy' : (y == n) = false := by simpa using hy
      by_cases hc : (k == NameKind.free && env.scope.kind == .function && env.kindOf n == some .cell) = true
      · rw [if_pos hc]; simp only [List.lookup_cons, hy']; exact ih
      · rw [if_neg hc]; simp only [List.lookup_cons, hy']; exact ih

section
variable {fx : Fx} {X : XP} {σ : St} {W : Wd} {s : Shared}

/-- a comprehension's own frame -/
abbrev fxC (fx : Fx) (scope : Scope) (C : Addr) (ex : List (Addr × Obj)) (m : Str → Option Value) : Fx :=
  { fx with env := compEnvC scope (clOf fx.env scope.names []) C fx.env, ex := ex, mfix := some m }

theorem cells_in {env : Env} {scope : Scope} (h : ∀ n, (n, NameKind.free) ∈ scope.names → env.cells.lookup n ≠ none) {x : Str} {c : Addr} (e : (clOf env scope.names []).lookup x = some c) : env.cells.lookup x = some c :=
  clOf_prop scope.names [] h (fun p hp => by cases hp) _ (lookup_mem e)

theorem fxC_all (all : FxAll fx) {scope : Scope} (co : CompOk fx.env scope) {C : Addr} {ex : List (Addr × Obj)} {m : Str → Option Value} {oC : Obj} (hin : (C, oC) ∈ ex) (hCL : C ≠ fx.L) : FxAll (fxC fx scope C ex m) := by
  have hfree : ∀ n, (n, NameKind.free) ∈ scope.names → fx.env.cells.lookup n ≠ none := fun n hn => all.cdef n (co.free n (co.frees _ hn rfl))
  exact {
    ok := ⟨co.kind, all.ok.handled⟩
    locs := .inr ⟨oC, hin⟩
    cex := fun q => absurd q hCL
    cinj := fun x y c h h' => all.cinj x y c (cells_in hfree h) (cells_in hfree h')
    cdef := fun x h q => by
      have h' : (relabel scope fx.env).names.lookup x = some .cell := h
      rw [relabel_lookup] at h'
      cases e : scope.names.lookup x with
      | none => rw [e] at h'; cases h'
      | some k =>
        rw [e, Option.map_some] at h'
        have hm := lookup_mem e
        have hs := clOf_some (env := fx.env) (x := x) scope.names [] (.inl (by
          split at h'
          · rename_i hc
            have : k = .free := by simp at hc; exact hc.1.1
            rw [← this]; exact hm
          · exact absurd (Option.some.inj h') (co.nocell _ hm)))
        rw [show (clOf fx.env scope.names []).lookup x = none from q] at hs
        cases hs
    scr := all.scr
    egl := all.egl
    ebu := all.ebu
    top := all.top
    part := all.part
    below := all.below
    dicts := all.dicts
    frs := all.frs
    ffr := all.ffr
    fkd := all.fkd
    depth := all.depth
    room := all.room
    mfn := fun q => absurd q hCL
    envf := fun q => absurd q hCL }

/-- into a comprehension's frame and back -/
theorem toC (all : FxAll fx) {scope : Scope} (co : CompOk fx.env scope) {C : Addr} {oC : Obj} {qs : List (Addr × Obj)} (hin : (C, oC) ∈ qs) (R : Rep (fx.pushL qs) σ W s) {l : Str → Option V} (hl : CLR W l oC)
    (hloc : ∀ y v, l y = some v → scope.names.lookup y = some .local) {l' : Str → Option V} (hl' : ∀ y v, l' y = some v → l y = some v ∨ compLoc scope σ.loc y = some v) :
    ∃ fc : Fx, FxAll fc ∧ fc.pg = fx.pg ∧ fc.ns = fx.ns ∧ fc.lev = fx.lev ∧ fc.env = compEnvC scope (clOf fx.env scope.names []) C fx.env ∧ fc.A = fx.A ∧ fc.qt = fx.qt ∧ Rep fc ⟨l', σ.hp⟩ W s ∧
      (∀ σ' W' s', W.le W' → Rep fc σ' W' s' → Rep (fx.pushL qs) ⟨σ.loc, σ'.hp⟩ W' s') := by
  have hfree : ∀ n, (n, NameKind.free) ∈ scope.names → fx.env.cells.lookup n ≠ none := fun n hn => all.cdef n (co.free n (co.frees _ hn rfl))
  refine R.elim fun e g m news G F N Co => ?_
  have hCL : C ≠ fx.L := (N _ (Co.exs _ (List.mem_append_left _ hin))).2.1
  let cf : Addr × Obj → Bool := fun p => fx.env.cells.any fun q => decide (fx.env.cells.lookup q.1 = some p.1)
  have cellIn : ∀ x c o, fx.env.cells.lookup x = some c → (c, o) ∈ news → (c, o) ∈ news.filter cf := fun x c o h1 h2 =>
    List.mem_filter.mpr ⟨h2, List.any_eq_true.mpr ⟨_, lookup_mem h1, decide_eq_true h1⟩⟩
  refine ⟨fxC fx scope C (qs ++ fx.ex ++ news.filter cf) m, fxC_all all co (oC := oC) (List.mem_append_left _ (List.mem_append_left _ hin)) hCL, rfl, rfl, rfl, rfl, rfl, rfl, ?_, ?_⟩
  · refine ⟨e, g, m, news, G, F, N, Co.nd, fun p hp => ?_, fun p hp => ?_, Co.aln, Co.len, Co.obs, Co.tps, fun x v h => ?_, fun x c h => ?_, Co.scc, fun m₀ q => Option.some.inj q, fun p hp t ht => ?_⟩
    · exact (List.mem_append.mp hp).elim (Co.exs p) fun q => (List.mem_filter.mp q).1
    · refine (List.mem_append.mp hp).elim (Co.exd p) fun q => ?_
      obtain ⟨e, _, e1⟩ := List.any_eq_true.mp (List.mem_filter.mp q).2
      exact (Co.cel _ _ (of_decide_eq_true e1)).1
    · rcases hl' x v h with h | h
      · obtain ⟨u, h1, h2⟩ := hl x v h
        exact ⟨u, h1, .comp (lookup_relabel_local (hloc x v h)) (List.mem_append_left _ (List.mem_append_left _ hin)) h2⟩
      · unfold compLoc at h
        split at h
        · rename_i hf
          obtain ⟨u, h1, h2⟩ := Co.loc x v h
          refine ⟨u, h1, ?_⟩
          have hc := co.free x hf
          cases h2 with
          | loc a b c => rw [show fx.env.kindOf x = some .local from a] at hc; cases hc
          | comp a b c => rw [show fx.env.kindOf x = some .local from a] at hc; cases hc
          | @cell c o a b d f =>
            have hs := clOf_some (env := fx.env) (x := x) scope.names [] (.inl (lookup_mem hf))
            obtain ⟨c', hc'⟩ := Option.isSome_iff_exists.mp hs
            have := cells_in hfree hc'
            rw [show fx.env.cells.lookup x = some c from b] at this
            cases this
            refine .cell (.inl ?_) hc' d f
            show (relabel scope fx.env).names.lookup x = some .cell
            rw [relabel_lookup, hf]
            simp [all.ok.kind, hc]
        · cases h
    · exact Co.cel x c (cells_in hfree h)
    · refine (List.mem_append.mp hp).elim (fun q => Co.ext p q t ht) fun q z => ?_
      obtain ⟨e, _, e1⟩ := List.any_eq_true.mp (List.mem_filter.mp q).2
      obtain ⟨_, o, v, h2, h3⟩ := Co.cel _ _ (of_decide_eq_true e1)
      have h4 := Co.tps t ht
      rw [← z] at h4
      rw [key_inj Co.nd h2 h4] at h3
      cases h3
  · intro σ' W' s' le R'
    refine R'.elim fun e' g' m' news' G' F' N' Co' => ?_
    obtain rfl : m' = m := Co'.mfx m rfl
    refine ⟨e', g', m', news', G', F', N', Co'.nd, fun p hp => Co'.exs p (List.mem_append_left _ hp), fun p hp => Co'.exd p (List.mem_append_left _ hp), Co'.aln, Co'.len, Co'.obs, Co'.tps, fun x v h => ?_, fun x c h => ?_, Co'.scc, Co.mfx, fun p hp t ht => Co'.ext p (List.mem_append_left _ hp) t ht⟩
    · obtain ⟨u, h1, h2⟩ := Co.loc x v h
      refine ⟨u, h1.mono le, ?_⟩
      cases h2 with
      | loc a b c => exact .loc a b c
      | comp a b c => exact .comp a b c
      | cell a b c d => exact .cell a b (Co'.exs _ (List.mem_append_right _ (cellIn _ _ _ b c))) d
    · obtain ⟨_, o, v, h2, h3⟩ := Co.cel x c h
      have hin' : (c, o) ∈ qs ++ fx.ex ++ news.filter cf := List.mem_append_right _ (cellIn x c o h h2)
      exact ⟨Co'.exd _ hin', o, v, Co'.exs _ hin', h3⟩

/-- a comprehension's variable is stored -/
theorem storeC {scope : Scope} (hkd : scope.kind = .function) {C : Addr} {cl : List (Str × Addr)} {oC : Obj} {ps : List (Addr × Obj)} (hps : ∀ p ∈ ps, ∀ xs, p.2 ≠ tupObj xs) (ok : ExOk fx (ps ++ [(C, oC)])) (R : Rep (fx.pushL (ps ++ [(C, oC)])) σ W s) (ho : NsObj oC)
    {l : Str → Option V} (hl : CLR W l oC) {x : Str} (hx : scope.names.lookup x = some .local) {v : V} {u : Value} (r : VR W v u) {Q : Unit → Shared → Prop} {E : Value → Shared → Prop}
    (k : ∀ oC' h' tk, NsObj oC' → CLR W (setN l x v) oC' → Rep (fx.pushL (ps ++ [(C, oC')])) σ W { s with heap := h', toks := tk } → Q () { s with heap := h', toks := tk }) :
    wpAny fx.M fx.A (storeName (compEnvC scope cl C fx.env) x u) Q E s := by
  obtain ⟨es, ep, hd, hk⟩ := ho
  have hg := R.exPop (p := (C, oC)) (List.mem_append_right _ (List.mem_singleton.mpr rfl))
  refine wpAny_storeName_local (m := nsFind es) (lookup_relabel_local hx) ⟨oC, es, ep, hg, hd, hk, fun _ => rfl⟩ (fun h' hn hs => ?_) (by show (scope.kind == .class || (scope.kind == .module && _)) = false; rw [hkd]; rfl)
  obtain ⟨o', es', ep', hg', hd', hk', hf'⟩ := hn
  refine k o' h' (s.toks + 1) ⟨es', ep', hd', hk'⟩ (fun y w h => ?_) ?_
  · unfold setN at h
    split at h
    · rename_i q
      subst q
      cases h
      exact ⟨u, r, es', ep', hd', hk', by rw [hf']; simp⟩
    · rename_i q
      obtain ⟨u', h1, es₂, ep₂, h2, h3, h4⟩ := hl y w h
      rw [hd] at h2
      cases h2
      exact ⟨u', h1, es', ep', hd', hk', by rw [hf']; simp [q, h4]⟩
  · refine R.exSwap ok (ps ++ [(C, o')]) (by simp) _ (fun b o hb e => (hs.2 b fun q => hb ?_).trans e) fun p hp => ?_
    · rw [q]
      exact List.mem_map.mpr ⟨(C, oC), List.mem_append_right _ (List.mem_singleton.mpr rfl), rfl⟩
    · rcases List.mem_append.mp hp with hp | hp
      · have := R.exPop (p := p) (List.mem_append_left _ hp)
        refine (hs.2 p.1 fun q => ?_).trans this
        have nd := ok.nd
        rw [List.map_append] at nd
        exact (List.nodup_append.mp nd).2.2 p.1 (List.mem_map_of_mem (f := (·.1)) hp) C (by simp) q
      · rw [List.mem_singleton.mp hp]; exact hg'

def nmV (p : Expr × V) : Option (Str × V) := match p.1 with | .Name x _ => some (x, p.2) | _ => none
/-- the targets that a comprehension binds: a name, or a tuple of names -/
def tgtV (t : Expr) (v : V) : Option (List (Str × V)) :=
  match t with
  | .Name x _ => some [(x, v)]
  | .Tuple es _ _ => match v with
    | .tup vs => if es.length = vs.length then (es.zip vs).mapM nmV
      else none
    | _ => none
  | _ => none

def setAll (l : Str → Option V) : List (Str × V) → Str → Option V
  | [] => l
  | (x, v) :: r => setAll (setN l x v) r

theorem asgInOrderC {scope : Scope} (hkd : scope.kind = .function) {C : Addr} {cl : List (Str × Addr)} {ps : List (Addr × Obj)} (hps : ∀ p ∈ ps, ∀ xs, p.2 ≠ tupObj xs) :
    ∀ (es : List Expr) (vs : List V) (bs : List (Str × V)), es.length = vs.length → ((es.zip vs).mapM nmV) = some bs → (∀ b ∈ bs, scope.names.lookup b.1 = some .local) →
    ∀ (us : List Value) (oC : Obj) (W : Wd) (s : Shared) (l : Str → Option V) (Q : Unit → Shared → Prop) (E : Value → Shared → Prop), VRs W vs us → ExOk fx (ps ++ [(C, oC)]) → Rep (fx.pushL (ps ++ [(C, oC)])) σ W s → NsObj oC → CLR W l oC →
    (∀ oC' h' tk, NsObj oC' → CLR W (setAll l bs) oC' → Rep (fx.pushL (ps ++ [(C, oC')])) σ W { s with heap := h', toks := tk } → Q () { s with heap := h', toks := tk }) →
    wpAny fx.M fx.A (assignInOrder ((assignEach es (compEnvC scope cl C fx.env)).map (·.2)) us) Q E s
  | [], vs, bs, hlen, hb, hn, us, oC, W, s, l, Q, E, r, ok, R, ho, hl, k => by
    simp at hb
    subst hb
    exact assignInOrder_nil (k oC s.heap s.toks ho hl R)
  | e :: es, [], bs, hlen, hb, hn, us, oC, W, s, l, Q, E, r, ok, R, ho, hl, k => by simp at hlen
  | e :: es, v :: vs, bs, hlen, hb, hn, us, oC, W, s, l, Q, E, r, ok, R, ho, hl, k => by
    cases r with
    | @cons _ _ u us r rs =>
      rw [List.zip_cons_cons, List.mapM_cons] at hb
      cases e with
      | Name x p =>
        simp only [nmV, bind_pure_comp, Option.bind_eq_bind, Option.bind_some] at hb
        cases hr : ((es.zip vs).mapM nmV) with
        | none => rw [hr] at hb; simp [nmV] at hb
        | some bs' =>
          rw [hr] at hb
          simp at hb
          subst hb
          refine assignInOrder_cons ?_
          refine wpAny_bind (wpAny_standAt (wpAny_bindName (storeC hkd hps ok R ho hl (hn _ (.head _)) r fun oC' h' tk ho' hl' R' => ?_)))
          exact asgInOrderC hkd hps es vs bs' (by simpa using hlen) hr (fun b hb => hn b (.tail _ hb)) us oC' W _ _ Q E rs (ok.keys (by simp)) R' ho' hl' fun oC'' h'' tk'' a b c => k oC'' h'' tk'' a b c
      | _ => simp [nmV] at hb

theorem asgC (all : FxAll fx) (hq : fx.qt = true) {scope : Scope} (hkd : scope.kind = .function) {C : Addr} {cl : List (Str × Addr)} {oC : Obj} {ps : List (Addr × Obj)} (hps : ∀ p ∈ ps, ∀ xs, p.2 ≠ tupObj xs) (ok : ExOk fx (ps ++ [(C, oC)])) (R : Rep (fx.pushL (ps ++ [(C, oC)])) σ W s) (ho : NsObj oC)
    {t : Expr} {v : V} {u : Value} {bs : List (Str × V)} (ht : tgtV t v = some bs) (hn : ∀ b ∈ bs, scope.names.lookup b.1 = some .local) (r : VR W v u) {Q : Unit → Shared → Prop} {E : Value → Shared → Prop}
    (k : ∀ oC' h' tk, NsObj oC' → CLR W (setAll (fun _ => none) bs) oC' → Rep (fx.pushL (ps ++ [(C, oC')])) σ W { s with heap := h', toks := tk } → Q () { s with heap := h', toks := tk }) :
    wpAny fx.M fx.A (assign t (compEnvC scope cl C fx.env) u) Q E s := by
  unfold tgtV at ht
  split at ht
  · cases ht
    exact wpAny_bind (wpAny_standAt (wpAny_bindName (storeC hkd hps ok R ho (l := fun _ => none) (fun _ _ h => by cases h) (hn _ (.head _)) r k)))
  · rename_i es n p
    split at ht
    · rename_i vs
      split at ht
      · rename_i hlen
        obtain ⟨a, xs, rfl, h2, h3⟩ := R.tup_at r
        have hall : ∀ (es : List Expr) (vs : List V) (bs : List (Str × V)), es.length = vs.length → ((es.zip vs).mapM nmV) = some bs → ∀ env, (assignEach es env).length = es.length ∧ (assignEach es env).findIdx? (·.1) = none := by
          intro es
          induction es with
          | nil => intro vs bs _ _ env; exact ⟨rfl, rfl⟩
          | cons e es ih =>
            intro vs bs hl hb env
            cases vs with
            | nil => simp at hl
            | cons v vs =>
              rw [List.zip_cons_cons, List.mapM_cons] at hb
              cases e with
              | Name x p =>
                cases hr : ((es.zip vs).mapM nmV) with
                | none => rw [hr] at hb; simp [nmV] at hb
                | some bs' =>
                  obtain ⟨i1, i2⟩ := ih vs bs' (by simpa using hl) hr env
                  have e1 : assignEach (Expr.Name x p :: es) env = (false, assign (.Name x p) env) :: assignEach es env := rfl
                  rw [e1]
                  refine ⟨by simp [i1], ?_⟩
                  rw [List.findIdx?_cons, i2]
                  rfl
              | _ => simp [nmV] at hb
        obtain ⟨q1, q2⟩ := hall es vs bs hlen ht (compEnvC scope cl C fx.env)
        refine assign_Tuple_tuple (all.ok.handled hq) (tupObj_isTup h2) (by rw [q1, hlen, h3.length]; simp) q2 fun h' he => ?_
        have R' := R.keep (h' := h') s.toks fun b o e => he b o (Nat.ne_of_lt (Heap.lt_size e)) e
        exact asgInOrderC hkd hps es vs bs hlen ht hn _ oC W _ (fun _ => none) Q E (by simpa using h3) ok R' ho (fun _ _ h => by cases h) fun oC' h'' tk a b c => k oC' h'' tk a b c
      · cases ht
    · cases ht
  · cases ht

def EvTs (fx : Fx) (X : XP) (ifs : List Expr) (σ : St) (Q : Bool → St → Prop) : Prop := ∀ W s, Rep fx σ W s → wpAny fx.M fx.A (forIn ifs true fun c r => if r = true then do let ok ← isTrue c fx.env (eval c fx.env); pure (ForInStep.yield ok) else pure (ForInStep.yield r)) (PB fx W Q) (PX fx W X) s
theorem evTs_nil {Q : Bool → St → Prop} (h : Q true σ) : EvTs fx X [] σ Q := fun _ _ R => wpAny_tests_nil (.here R h)
theorem compLoop_any {prog : Program} {w : World} {A : Around} {R : Result → Shared → Prop} {s : Shared} {elt target iter : Expr} {ifs : List Expr} {scope : Scope} {pos : Pos} {it acc : Value} {env : Env} (I : Nat → Shared → Prop)
    (turn : ∀ n s, I n s → wpAny (model prog w) A (pyNext it) (fun r s₁ => match r with
      | none => R (.ok .next) s₁
      | some v => wpAny (model prog w) A (letOwnedTupleGo target it v) (fun _ s₁' => wpAny (model prog w) A (assign target env v) (fun _ s₂ =>
          wpAny (model prog w) A (forIn ifs true fun c r => if r = true then do let ok ← isTrue c env (eval c env); pure (ForInStep.yield ok) else pure (ForInStep.yield r)) (fun ok s₃ =>
            if ok = true then wpAny (model prog w) A (eval elt env) (fun x s₄ =>
              wpAny (model prog w) A (call (.builtin "list.append") [acc, x]) (fun _ s₅ => ∃ m, m < n ∧ I m s₅) (notedBy (model prog w) A env fun e s' => R (.error e) s') s₄) (notedBy (model prog w) A env fun e s' => R (.error e) s') s₃
            else ∃ m, m < n ∧ I m s₃) (notedBy (model prog w) A env fun e s' => R (.error e) s') s₂) (notedBy (model prog w) A env fun e s' => R (.error e) s') s₁') (notedBy (model prog w) A env fun e s' => R (.error e) s') s₁) (notedBy (model prog w) A env fun e s' => R (.error e) s') s)
    (n : Nat) (h : I n s) :
    codeAny (model prog w) A (.compLoop (.ListComp elt [⟨target, iter, ifs, 0⟩] scope pos) 0 it acc env) R s := by
  refine codeAny_loop rfl I (fun n s hI => ?_) n h
  show wpAny _ A ((compTurn (.ListComp elt [⟨target, iter, ifs, 0⟩] scope pos) 0 it acc env).onRaise (fun x => do noteFrame x env; theTreesLotGoes x)) _ _ s
  refine wpAny_noted ?_
  rw [compTurn_list]
  refine wpAny_bind (wpAny_standAt (wpAny_bind (wpAny_mono (turn n s hI) (fun r s₁ h₁ => ?_) fun _ _ h' => h')))
  cases r with
  | none => exact wpAny_pure h₁
  | some v =>
    refine wpAny_bind (wpAny_mono h₁ (fun _ s₁' h₁' => ?_) fun _ _ h' => h')
    refine wpAny_bind (wpAny_mono h₁' (fun _ s₂ h₂ => wpAny_bind (wpAny_mono h₂ (fun ok s₃ h₃ => ?_) fun _ _ h' => h')) fun _ _ h' => h')
    cases ok with
    | false => exact wpAny_pure ⟨rfl, h₃⟩
    | true =>
      exact wpAny_bind (wpAny_bind (wpAny_mono h₃ (fun x s₄ h₄ => wpAny_bind (wpAny_mono h₄ (fun _ s₅ h₅ => wpAny_pure (wpAny_pure ⟨rfl, h₅⟩)) fun _ _ h' => h')) fun _ _ h' => h'))

/-- what a comprehension's turns do -/
def CompJ (fx : Fx) (elt t : Expr) (ifs : List Expr) (scope : Scope) (its : List V) (need : St → Prop) (σ₁ : St) (J : Nat → List O → Prop) : Prop :=
  J 0 (σ₁.hp ++ [.list []]) ∧ (∀ k hp, J k hp → need ⟨σ₁.loc, hp⟩) ∧ its.length ≤ sizeLine ∧
  ∀ (k : Nat) hp (hk : k < its.length), J k hp → ∃ bs, tgtV t its[k] = some bs ∧ (∀ b ∈ bs, scope.names.lookup b.1 = some .local) ∧
    ∀ fc : Fx, FxAll fc → fc.pg = fx.pg → fc.ns = fx.ns → fc.lev = fx.lev → fc.qt = fx.qt → fc.env.scope = relabel scope fx.env →
      EvTs fc X0 ifs ⟨setAll (compLoc scope σ₁.loc) bs, hp⟩ (fun b σ₂ => if b then EvE fc X0 elt σ₂ (fun v σ₃ => ∃ acc, σ₃.hp[σ₁.hp.length]? = some (.list acc) ∧ acc.length ≤ k ∧ J (k + 1) (σ₃.hp.set σ₁.hp.length (.list (acc ++ [v])))) else J (k + 1) σ₂.hp)

theorem setAll_or (a : Str → Option V) : ∀ (bs : List (Str × V)) (b : Str → Option V), setAll (fun y => (b y).or (a y)) bs = fun y => (setAll b bs y).or (a y)
  | [], _ => rfl
  | (x, w) :: r, b => by
    have e : setN (fun y => (b y).or (a y)) x w = fun y => ((setN b x w) y).or (a y) := by
      funext y
      unfold setN
      split <;> simp
    show setAll (setN (fun y => (b y).or (a y)) x w) r = _
    rw [e]
    exact setAll_or a r (setN b x w)
theorem setAll_split {a : Str → Option V} {bs : List (Str × V)} {y : Str} {v : V} (h : setAll a bs y = some v) : setAll (fun _ => none) bs y = some v ∨ a y = some v := by
  have e := congrFun (setAll_or a bs fun _ => none) y
  simp only [Option.none_or] at e
  rw [e] at h
  cases q : setAll (fun _ => none) bs y with
  | none => rw [q, Option.none_or] at h; exact .inr h
  | some w => rw [q] at h; simp at h; subst h; exact .inl rfl
theorem setAll_mem : ∀ {bs : List (Str × V)} {l : Str → Option V} {y : Str} {v : V}, setAll l bs y = some v → (∃ b ∈ bs, b.1 = y) ∨ l y = some v
  | [], _, _, _, h => .inr h
  | (x, w) :: r, l, y, v, h => by
    rcases setAll_mem (bs := r) h with ⟨b, hb, e⟩ | q
    · exact .inl ⟨b, .tail _ hb, e⟩
    · unfold setN at q
      split at q
      · rename_i e
        exact .inl ⟨_, .head _, e.symm⟩
      · exact .inr q

theorem comp_core (all : FxAll fx) (hq : fx.qt = true) {elt t iter : Expr} {ifs : List Expr} {scope : Scope} {pos pos' : Pos} {use : Option (Value → Sem Unit)} (co : CompOk fx.env scope) (hs : ∀ x, foldedSetIterable iter fx.env x = pure x) {Qr : Value → Shared → Prop}
    {P : List V → (St → Prop) → St → Prop} (hI : IterT fx X iter σ P) (R : Rep fx σ W s)
    (body : ∀ its need σ₁, P its need σ₁ → ∃ J, CompJ fx elt t ifs scope its need σ₁ J ∧
      ∀ C oC D hp W' s', ExOk fx [(C, oC)] → NsObj oC → W.le W' → Rep (fx.pushL [(C, oC)]) ⟨σ₁.loc, hp⟩ W' s' → W'.al[σ₁.hp.length]? = some D → J its.length hp → compPost fx.M fx.A (PX fx W X) use Qr (.ref D) C (.ok .next) s') :
    wpAny fx.M fx.A (comprehension (.ListComp elt [⟨t, iter, ifs, 0⟩] scope pos) scope fx.env pos' (newList []) false (eval iter fx.env) use) Qr (PX fx W X) s := by
  have hfree : ∀ n, (n, NameKind.free) ∈ scope.names → fx.env.cells.lookup n ≠ none := fun n hn => all.cdef n (co.free n (co.frees _ hn rfl))
  refine wpAny_comprehension_free (g := ⟨t, iter, ifs, 0⟩) (gs := []) rfl hs (closure_ok hfree) co.kind co.names (wpAny_mono (hI W s R) (fun xv s₁ h₁ => wpAny_mono h₁ (fun it s₂ h₂ => ?_) fun _ _ e => e) fun _ _ e => e)
  obtain ⟨Io, st, ps, W₁, σ₁, its, need, rfl, le₁, S, hst, hex, R₁, hP⟩ := h₂
  obtain ⟨J, ⟨h0, hneed, hsz, turn⟩, fin⟩ := body its need σ₁ hP
  -- the list
  obtain ⟨W₂, le₂, hal₂, R₂⟩ := R₁.alloc (o := .list []) (ob := listObj [] 0) s₂.toks rfl fun W' _ => .list 0 .nil
  refine wpAny_newObj_type ?_ (by size_fits)
  have hn₁ : W₁.al.length = σ₁.hp.length := by obtain ⟨_, _, _, _, _, _, _, c⟩ := R₁; exact c.len
  have hD : W₂.al[σ₁.hp.length]? = some s₂.heap.objs.size := by rw [hal₂, ← hn₁]; simp
  -- the names
  refine wpAny_newFunctionEnv co.nocell (by intro y hy; simp at hy) (fun h₃ hns₃ hsb₃ => ?_) co.kind
  dsimp only at hns₃ hsb₃ ⊢
  generalize hH : s₂.heap.push { cls := .type "list", dict := none, data := .seq ([] : List Value).toArray } = H2 at hns₃ hsb₃ R₂ ⊢
  obtain ⟨oC, es, ep, hgC, hdC, hkC, hfC⟩ := hns₃
  have old : ∀ b o, H2.get? b = some o → h₃.get? b = some o := fun b o e => hsb₃.extBut b o (Nat.ne_of_lt (Heap.lt_size e)) (Heap.get?_push_of_some _ e)
  obtain ⟨R₃, ok₃⟩ := Rep.exPush (s := { s₂ with heap := H2, toks := s₂.toks }) R₂ [(H2.objs.size, oC)] (by simp) s₂.toks old (fun p hp => by rw [List.mem_singleton.mp hp]; exact Nat.le_refl _)
    (fun p hp => by rw [List.mem_singleton.mp hp]; exact hgC) (R₂.locals_at (all.pushL hex))
  -- the frame's own things in the order that the loop wants
  have okC : ExOk fx [(H2.objs.size, oC)] := ⟨by simp, fun p hp => ok₃.dis p (List.mem_append_right _ hp), ok₃.cel, ok₃.loc⟩
  have okP : ExOk (fx.pushL [(H2.objs.size, oC)]) ps := ⟨hex.nd, fun p hp q => by
    rcases List.mem_append.mp hp with hp | hp
    · rw [List.mem_singleton.mp hp] at q
      obtain ⟨o, ho⟩ := mem_keys q
      exact ok₃.dis _ (List.mem_append_left _ ho) (by simp)
    · exact hex.dis p hp q, hex.cel, hex.loc⟩
  have perm : ∀ {σ' W' s'} {a b : List (Addr × Obj)}, Rep ((fx.pushL a).pushL b) σ' W' s' → Rep ((fx.pushL b).pushL a) σ' W' s' := by
    intro σ' W' s' a b R'
    refine R'.elim fun e g m news G F N c => ?_
    have hmem : ∀ p, p ∈ a ++ (b ++ fx.ex) → p ∈ b ++ (a ++ fx.ex) := fun p hp => by
      simp only [List.mem_append] at hp ⊢
      rcases hp with h | h | h <;> simp [h]
    have hmem' : ∀ p, p ∈ b ++ (a ++ fx.ex) → p ∈ a ++ (b ++ fx.ex) := fun p hp => by
      simp only [List.mem_append] at hp ⊢
      rcases hp with h | h | h <;> simp [h]
    refine ⟨e, g, m, news, G, F, N, c.nd, fun p hp => c.exs p (hmem p hp), fun p hp => c.exd p (hmem p hp), c.aln, c.len, c.obs, c.tps, fun x v h => ?_, c.cel, c.scc, c.mfx, fun p hp t ht => c.ext p (hmem p hp) t ht⟩
    obtain ⟨u, h1, h2⟩ := c.loc x v h
    refine ⟨u, h1, ?_⟩
    cases h2 with
    | loc a b c => exact .loc a b c
    | comp a b c => exact .comp a (hmem' _ b) c
    | cell a b c d => exact .cell a b c d
  have R₄ := perm R₃
  have loop : ∀ s₃ : Shared, s₃ = { s₂ with heap := h₃, toks := s₂.toks } →
      codeAny fx.M fx.A (.compLoop (.ListComp elt [⟨t, iter, ifs, 0⟩] scope pos) 0 (.ref Io) (.ref s₂.heap.objs.size) (compEnvC scope (clOf fx.env scope.names []) H2.objs.size fx.env))
        (compPost fx.M fx.A (PX fx W X) use Qr (.ref s₂.heap.objs.size) H2.objs.size) s₃ := by
    rintro s₃ rfl
    refine compLoop_any (fun n s' => ∃ k ps' oC' W' hp, n = its.length - k ∧ k ≤ its.length ∧ W₂.le W' ∧ st k ps' ∧ ExOk fx [(H2.objs.size, oC')] ∧ ExOk (fx.pushL [(H2.objs.size, oC')]) ps' ∧ NsObj oC' ∧
      Rep ((fx.pushL [(H2.objs.size, oC')]).pushL ps') ⟨σ₁.loc, hp⟩ W' s' ∧ J k hp) ?_ its.length ⟨0, ps, oC, W₂, _, rfl, Nat.zero_le _, .refl _, hst, okC, okP, ⟨es, ep, hdC, hkC⟩, R₄, h0⟩
    rintro n s' ⟨k, ps', oC', W', hp, rfl, hk, le', hst', okC', okP', hoC', R', hJ⟩
    have LE' := le₁.trans (le₂.trans le')
    rcases Nat.lt_or_ge k its.length with hlt | hge
    · refine S.next [(H2.objs.size, oC')] k ps' _ W' s' hlt (le₂.trans le') hst' okP' R' (hneed k hp hJ) _ _ fun u ps'' W'' h'' tk'' hst'' hkey le'' r'' R'' => ?_
      refine S.own [(H2.objs.size, oC')] (k + 1) ps'' _ W'' _ t u hst'' R'' _ _ ?_
      have okP'' := okP'.keys hkey
      have okJ := okC'.join okP''
      rw [pushL_pushL] at R''
      obtain ⟨bs, htv, hloc, ht⟩ := turn k hp hlt hJ
      have hps'' := S.tup (k + 1) ps'' hst''
      refine asgC all hq co.kind hps'' okJ R'' hoC' htv hloc r'' fun oC₂ h₅ tk₅ ho₂ hl₂ R₅ => ?_
      have okC₂ : ExOk fx [(H2.objs.size, oC₂)] := okC'.keys rfl
      have okP₂ : ExOk (fx.pushL [(H2.objs.size, oC₂)]) ps'' := ExOk.left (qs := [(H2.objs.size, oC')]) rfl okP''
      obtain ⟨fc, allc, e1, e2, e3, e4, e5, e6, Rc, back⟩ := toC all co (List.mem_append_right _ (List.mem_singleton.mpr rfl)) R₅ hl₂ (fun y v h => by
        rcases setAll_mem h with ⟨b, hb, rfl⟩ | q
        · exact hloc b hb
        · cases q) (l' := setAll (compLoc scope σ₁.loc) bs) (fun y v h => setAll_split h)
      have hM : fc.M = fx.M := by show model fc.pg.prog fc.pg.w = model fx.pg.prog fx.pg.w; rw [e1]
      have h₆ := ht fc allc e1 e2 e3 e6 (by rw [e4]; rfl) W'' _ Rc
      rw [hM, e5, e4] at h₆
      refine wpAny_mono h₆ ?_ fun _ _ x => x.never.elim
      refine fun b s₆ zz => zz.elim fun W₆ σ₆ le₆ R₆ h₆' => ?_
      cases b with
      | true =>
        have h₇ := h₆' W₆ s₆ R₆
        rw [hM, e5, e4] at h₇
        simp only [if_true]
        refine wpAny_mono h₇ ?_ fun _ _ x => x.never.elim
        rintro y s₇ ⟨W₇, σ₇, v, le₇, R₇, r₇, acc, hacc, hlen, hJ₇⟩
        have R₈ := back σ₇ W₇ s₇ (le₆.trans le₇) R₇
        have leT : W₂.le W₇ := ((le'.trans le'').trans le₆).trans le₇
        have h₈ := append_ok (fx := fx.pushL (ps'' ++ [(H2.objs.size, oC₂)])) (X := X0) (σ := ⟨σ₁.loc, σ₇.hp⟩) (Q := fun r σ' => J (k + 1) σ'.hp ∧ σ'.loc = σ₁.loc) (v := v) hacc (by omega) ⟨hJ₇, rfl⟩ W₇ s₇ [.ref s₂.heap.objs.size, y] R₈
          (.cons (.ref (prefix_get leT.1 hD)) (.cons r₇ .nil))
        refine wpAny_mono h₈ ?_ fun _ _ x => x.never.elim
        rintro z s₉ ⟨W₉, σ₉, v₉, le₉, R₉, r₉, hJ₉, hl₉⟩
        obtain ⟨loc₉, hp₉⟩ := σ₉
        dsimp only at hl₉ hJ₉
        subst hl₉
        refine ⟨its.length - (k + 1), by omega, k + 1, ps'', oC₂, W₉, hp₉, rfl, hlt, leT.trans le₉, hst'', okC₂, okP₂, ho₂, ?_, hJ₉⟩
        rw [pushL_pushL]
        exact R₉
      | false =>
        have R₈ := back σ₆ W₆ s₆ le₆ R₆
        refine ⟨its.length - (k + 1), by omega, k + 1, ps'', oC₂, W₆, σ₆.hp, rfl, hlt, (le'.trans le'').trans le₆, hst'', okC₂, okP₂, ho₂, ?_, h₆'⟩
        rw [pushL_pushL]
        exact R₈
    · obtain rfl : k = its.length := Nat.le_antisymm hk hge
      refine S.done [(H2.objs.size, oC')] ps' _ W' s' (le₂.trans le') hst' okP' R' (hneed _ hp hJ) _ _ fun h'' tk'' R'' => ?_
      exact fin H2.objs.size oC' s₂.heap.objs.size hp W' _ okC' hoC' LE' R'' (prefix_get le'.1 hD) hJ
  exact codeAny_compStart_list (loop _ rfl) (S.self [(H2.objs.size, oC)] 0 ps _ W₂ _ hst R₄ _ _ (loop _ rfl))
end
end Mine

set_option autoImplicit false
namespace Mine
open PySem PySem.W PySem.Calls PySem.Spec PyProof.Rows

section
variable {fx : Fx} {X : XP} {σ : St} {W : Wd} {s : Shared}

theorem ns_at {h : Heap} {C : Addr} {oC : Obj} (hg : h.get? C = some oC) (ho : NsObj oC) : ∃ m, h.Ns C m := by
  obtain ⟨es, ep, hd, hk⟩ := ho
  exact ⟨nsFind es, oC, es, ep, hg, hd, hk, fun _ => rfl⟩

theorem evComp (all : FxAll fx) (hq : fx.qt = true) {elt t iter : Expr} {ifs : List Expr} {scope : Scope} {pos : Pos} {Q : V → St → Prop} (co : CompOk fx.env scope) (hs : ∀ x, foldedSetIterable iter fx.env x = pure x)
    (h : IterT fx X iter σ (fun its need σ₁ => ∃ J, CompJ fx elt t ifs scope its need σ₁ J ∧ ∀ hp, J its.length hp → Q (.ref σ₁.hp.length) ⟨σ₁.loc, hp⟩)) : EvE fx X (.ListComp elt [⟨t, iter, ifs, 0⟩] scope pos) σ Q := by
  intro W s R
  show wpAny fx.M fx.A (comprehension (.ListComp elt [⟨t, iter, ifs, 0⟩] scope pos) scope fx.env _ (newList []) false (eval iter fx.env) none) _ _ s
  refine comp_core all hq co hs h R fun its need σ₁ ⟨J, hJ, fin⟩ => ⟨J, hJ, fun C oC D hp W' s' okC ho le R' hD hJ' => ?_⟩
  obtain ⟨m, hm⟩ := ns_at (R'.exPop (List.mem_singleton.mpr rfl)) ho
  refine ⟨m, hm, fun h' hs' => ?_⟩
  have R'' := R'.exDrop okC s'.toks (h' := h') fun b o hb e => (hs'.2 b (by simpa using hb)).trans e
  exact ⟨W', _, .ref σ₁.hp.length, le, R'', .ref hD, fin hp hJ'⟩

theorem evAssignComp (all : FxAll fx) (hq : fx.qt = true) {elt t iter : Expr} {ifs : List Expr} {scope : Scope} {pos p spos : Pos} {y : Str} {Q : Fl → St → Prop} (hy : isVar fx y) (co : CompOk fx.env scope) (hs : ∀ x, foldedSetIterable iter fx.env x = pure x)
    (h : IterT fx X iter σ (fun its need σ₁ => ∃ J, CompJ fx elt t ifs scope its need σ₁ J ∧ ∀ hp, J its.length hp → Q .next ⟨setN σ₁.loc y (.ref σ₁.hp.length), hp⟩)) :
    EvS fx X (.Assign [.Name y p] (.ListComp elt [⟨t, iter, ifs, 0⟩] scope pos) spos) σ Q := by
  have hsw : ∃ b, swapsWith (.ListComp elt [⟨t, iter, ifs, 0⟩] scope pos) (some (.Name y p)) spos.line fx.env = pure b := ⟨_, rfl⟩
  obtain ⟨b, hb⟩ := hsw
  intro W s R
  cases b with
  | false =>
    refine wpAny_Assign_Name (wpAny_mono (evComp all hq co hs (Q := fun v σ' => Q .next (σ'.set y v)) (h.mono fun its need σ' ⟨J, a, b⟩ => ⟨J, a, fun hp q => b hp q⟩) W s R) ?_ fun _ _ x => x) hb
    refine fun u s₁ zz => zz.elim fun W₁ σ₁ v le₁ R₁ r₁ h₁ => ?_
    exact storeVar all hy R₁ r₁ fun _ _ R₂ => ⟨W₁, _, .next, le₁, R₂, .next, h₁⟩
  | true =>
    rw [exec_Assign_Name_used _ _ _ _ hb]
    refine wpAny_bind (wpAny_standAt (wpAny_bind ?_))
    show wpAny _ _ (do let _ ← comprehension (.ListComp elt [⟨t, iter, ifs, 0⟩] scope pos) scope fx.env _ (newList []) false (eval iter fx.env) (some (assign (.Name y p) fx.env))) _ _ s
    refine wpAny_bind (wpAny_mono (comp_core all hq co hs h R (use := some (assign (.Name y p) fx.env)) (Qr := fun _ s' => PF fx W Q .next s') fun its need σ₁ ⟨J, hJ, fin⟩ => ⟨J, hJ, fun C oC D hp W' s' okC ho le R' hD hJ' => ?_⟩)
      (fun _ s' hq' => wpAny_pure (wpAny_pure hq')) fun _ _ x => x)
    show wpAny fx.M fx.A (assign (.Name y p) fx.env (.ref D)) _ _ s'
    have hy' : isVar (fx.pushL [(C, oC)]) y := hy
    refine wpAny_mono (asgName (X := X0) (all.pushL okC) hy' (Q := fun σ' => σ' = (⟨setN σ₁.loc y (.ref σ₁.hp.length), hp⟩ : St)) (p := p) rfl W' s' (.ref D) R' (.ref hD)) ?_ fun _ _ x => x.never.elim
    rintro _ s₂ ⟨W₂, σ₂, le₂, R₂, rfl⟩
    obtain ⟨m, hm⟩ := ns_at (R₂.exPop (List.mem_singleton.mpr rfl)) ho
    refine ⟨m, hm, fun h' hs' => ?_⟩
    have R'' := R₂.exDrop okC s₂.toks (h' := h') fun b o hb e => (hs'.2 b (by simpa using hb)).trans e
    exact ⟨W₂, _, .next, le.trans le₂, R'', .next, fin hp hJ'⟩

theorem evCallF (all : FxAll fx) {f : Str} {p pos : Pos} {a : Addr} {e : Expr} {rest : List Expr} {Q : V → St → Prop} (hf : fx.pg.gl f = some (.ref a)) (hk : fx.env.kindOf f = some .globalImplicit) (hd : (f == ("__debug__" : Str)) = false) (hfn : fnIn fx.pg.K a = true) (hs : (e :: rest).all noStar = true)
    (h : EvEs fx X (e :: rest) σ (fun vs σ₁ => CallT fx X (.ref a) vs σ₁ Q)) : EvE fx X (.Call (.Name f p) (e :: rest) [] pos) σ Q := by
  intro W s R
  rw [List.all_cons, Bool.and_eq_true] at hs
  refine Call_Name rfl (all.glb f _ p hf hk σ W s _ _ R ?_ hd)
  unfold fnIn at hfn
  split at hfn
  · rename_i c d fd sl q
    refine callWith_def (o := ⟨c, d, .func fd, sl⟩) (fd := fd) rfl (wpAny_mono (h W s pos R) ?_ fun _ _ x => x) (star_cons hs.1 _ _)
    refine fun us s₁ zz => zz.elim fun W₁ σ₁ vs le₁ R₁ r₁ h₁ => ?_
    refine ⟨?_, wpAny_mono (h₁ W₁ s₁ us R₁ r₁) (fun _ _ x => x.mono le₁ fun _ _ y => y) fun _ _ x => x.mono le₁ fun _ _ y => y⟩
    exact all.stays R₁ _ _ (all.part _ _ q)
  · cases hfn

theorem callT_of (all : FxAll fx) {lev : Nat} {qt : Bool} {a : Addr} {vs : List V} {Q : V → St → Prop} (hl : lev ≤ fx.lev) (hq : qt = true → fx.qt = true) (h : CallOK fx.pg lev qt fx.ns a vs σ.hp (fun c hp' => X c ⟨σ.loc, hp'⟩) (fun v hp' => Q v ⟨σ.loc, hp'⟩)) : CallT fx X (.ref a) vs σ Q :=
  fun W s us R r => wpAny_mono (h fx all rfl hl rfl hq σ.loc W s us R r) (fun _ _ x => x.mono (.refl _) fun v σ' ⟨y, z⟩ => by obtain ⟨l, hp⟩ := σ'; dsimp only at y z; subst y; exact z)
    fun _ _ x => x.mono (.refl _) fun v σ' ⟨y, z⟩ => by obtain ⟨l, hp⟩ := σ'; dsimp only at y z; subst y; exact z

/-- targets of a frame's own -/
theorem asgInOrder (all : FxAll fx) : ∀ (es : List Expr) (vs : List V) (bs : List (Str × V)), es.length = vs.length → ((es.zip vs).mapM nmV) = some bs → (∀ b ∈ bs, isVar fx b.1) →
    ∀ (us : List Value) (σ : St) (W : Wd) (s : Shared) (Q : Unit → Shared → Prop) (E : Value → Shared → Prop), VRs W vs us → Rep fx σ W s →
    (∀ h' tk, Rep fx ⟨setAll σ.loc bs, σ.hp⟩ W { s with heap := h', toks := tk } → Q () { s with heap := h', toks := tk }) →
    wpAny fx.M fx.A (PySem.assignInOrder ((assignEach es fx.env).map (·.2)) us) Q E s
  | [], vs, bs, hlen, hb, hn, us, σ, W, s, Q, E, r, R, k => by
    simp at hb
    subst hb
    exact assignInOrder_nil (k s.heap s.toks R)
  | e :: es, [], bs, hlen, hb, hn, us, σ, W, s, Q, E, r, R, k => by simp at hlen
  | e :: es, v :: vs, bs, hlen, hb, hn, us, σ, W, s, Q, E, r, R, k => by
    cases r with
    | @cons _ _ u us r rs =>
      rw [List.zip_cons_cons, List.mapM_cons] at hb
      cases e with
      | Name x p =>
        simp only [nmV, bind_pure_comp, Option.bind_eq_bind, Option.bind_some] at hb
        cases hr : ((es.zip vs).mapM nmV) with
        | none => rw [hr] at hb; simp [nmV] at hb
        | some bs' =>
          rw [hr] at hb
          simp at hb
          subst hb
          refine assignInOrder_cons ?_
          refine wpAny_bind (wpAny_standAt (wpAny_bindName (storeVar all (hn _ (.head _)) R r fun h' tk R' => ?_)))
          exact asgInOrder all es vs bs' (by simpa using hlen) hr (fun b hb => hn b (.tail _ hb)) us _ W _ Q E rs R' fun h'' tk'' a => k h'' tk'' a
      | _ => simp [nmV] at hb

theorem tgt_each : ∀ (es : List Expr) (vs : List V) (bs : List (Str × V)), es.length = vs.length → ((es.zip vs).mapM nmV) = some bs → ∀ env, (assignEach es env).length = es.length ∧ (assignEach es env).findIdx? (·.1) = none := by
  intro es
  induction es with
  | nil => intro vs bs _ _ env; exact ⟨rfl, rfl⟩
  | cons e es ih =>
    intro vs bs hl hb env
    cases vs with
    | nil => simp at hl
    | cons v vs =>
      rw [List.zip_cons_cons, List.mapM_cons] at hb
      cases e with
      | Name x p =>
        cases hr : ((es.zip vs).mapM nmV) with
        | none => rw [hr] at hb; simp [nmV] at hb
        | some bs' =>
          obtain ⟨i1, i2⟩ := ih vs bs' (by simpa using hl) hr env
          have e1 : assignEach (Expr.Name x p :: es) env = (false, assign (.Name x p) env) :: assignEach es env := rfl
          rw [e1]
          refine ⟨by simp [i1], ?_⟩
          rw [List.findIdx?_cons, i2]
          rfl
      | _ => simp [nmV] at hb

theorem asgT_of (all : FxAll fx) (hq : fx.qt = true) {t : Expr} {v : V} {bs : List (Str × V)} {Q : St → Prop} (ht : tgtV t v = some bs) (hn : ∀ b ∈ bs, isVar fx b.1) (h : Q ⟨setAll σ.loc bs, σ.hp⟩) : AsgT fx X t v σ Q := by
  unfold tgtV at ht
  split at ht
  · cases ht
    exact asgName all (hn _ (.head _)) h
  · rename_i es n p
    split at ht
    · rename_i vs
      split at ht
      · rename_i hlen
        intro W s u R r
        obtain ⟨a, xs, rfl, h2, h3⟩ := R.tup_at r
        obtain ⟨q1, q2⟩ := tgt_each es vs bs hlen ht fx.env
        refine assign_Tuple_tuple (all.ok.handled hq) (tupObj_isTup h2) (by rw [q1, hlen, h3.length]; simp) q2 fun h' he => ?_
        have R' := R.keep (h' := h') s.toks fun b o e => he b o (Nat.ne_of_lt (Heap.lt_size e)) e
        exact asgInOrder all es vs bs hlen ht hn _ σ W _ _ _ (by simpa using h3) R' fun h'' tk a => ⟨W, _, .refl _, a, h⟩
      · cases ht
    · cases ht
  · cases ht

/-! stores into lists -/
end
end Mine

set_option autoImplicit false
namespace Mine
open PySem PySem.W PySem.Calls PySem.Spec PyProof.Rows

theorem ofString_inj (a b : String) : (Str.ofString a = Str.ofString b) = (a = b) := by
  refine propext ⟨fun h => ?_, fun h => h ▸ rfl⟩
  rw [Str.ofString_eq_toList, Str.ofString_eq_toList] at h
  have h1 : (a.toList.map Char.toNat) = (b.toList.map Char.toNat) := by simpa using h
  have h2 : a.toList = b.toList := by
    have inj : ∀ c d : Char, c.toNat = d.toNat → c = d := fun c d e => Char.toNat_inj.mp e
    exact List.map_inj_right inj |>.mp h1
  exact String.toList_inj.mp h2

section
variable {fx : Fx} {X : XP} {σ : St} {W : Wd} {s : Shared}

/-! methods -/
def baseOk : Expr → Bool
  | .Call .. => false
  | _ => true
theorem attributeBase_plain {o : Expr} (h : baseOk o = true) (attr : Str) (env : Env) (whole : Sem Value) : attributeBase o attr env whole = whole := by
  cases o <;> first | rfl | cases h

theorem star_all : ∀ {es : List Expr}, es.all noStar = true → ∀ (pos : Pos) (env : Env), (backTo pos (starEach es env)).all (!·.1) = true
  | [], _, _, _ => rfl
  | e :: r, h, pos, env => by
    rw [List.all_cons, Bool.and_eq_true] at h
    rw [star_cons h.1]
    have := star_all h.2 pos env
    simpa [backTo] using this

theorem evMeth {o : Expr} {name : Str} {apos pos : Pos} {args : List Expr} {Q : V → St → Prop} (hb : baseOk o = true) (ha : args.all noStar = true) (hn : args.length < 30) (hp : (apos.endLine == pos.line) = true)
    (h : EvE fx X o σ (fun ov σ₁ => ∃ id, GetM fx ov name id σ₁ ∧ EvEs fx X args σ₁ (fun vs σ₂ => CallT fx X (.builtin id) (ov :: vs) σ₂ Q))) : EvE fx X (.Call (.Attribute o name apos) args [] pos) σ Q := by
  intro W s R
  have he : eval (.Call (.Attribute o name apos) args [] pos) fx.env = (do
      let ov ← attributeBase o name fx.env (eval o fx.env)
      standAt apos.atName
      methodCall o name apos pos fx.env ov (args.length + 0) (backTo pos (starEach args fx.env)) []) := rfl
  rw [he, attributeBase_plain hb]
  refine wpAny_bind (wpAny_mono (h W s R) ?_ fun _ _ x => x)
  rintro u s₁ ⟨W₁, σ₁, ov, le₁, R₁, r₁, id, hg, h₁⟩
  refine wpAny_bind (wpAny_standAt ?_)
  unfold methodCall
  have hf : methodCallForm (args.length + 0) (backTo pos (starEach args fx.env)) [] = true := by
    unfold methodCallForm
    rw [star_all ha]
    simp; omega
  rw [hf]
  unfold calleeOf
  simp only [if_true]
  refine wpAny_bind (wpAny_holding (hg W₁ s₁ u _ _ _ R₁ r₁ ?_))
  unfold methodCallPos
  simp only [Bool.not_true, Bool.false_or, hp, if_true]
  refine wpAny_bind (wpAny_pure ?_)
  cases args with
  | nil =>
    refine callWith_method0 ?_
    have h₂ := h₁ W₁ s₁ pos R₁
    have h₃ : wpAny fx.M fx.A (spliced (backTo pos (starEach [] fx.env))) (fun us s' => us = [] ∧ PVs fx W₁ (fun vs σ₂ => CallT fx X (.builtin id) (ov :: vs) σ₂ Q) us s') (PX fx W₁ X) s₁ := by
      have e0 : spliced (backTo pos (starEach [] fx.env)) = pure [] := rfl
      rw [e0] at h₂ ⊢
      exact fun Γ p hΓ => ⟨rfl, h₂ Γ p hΓ⟩
    have e0 : spliced (backTo pos (starEach [] fx.env)) = pure [] := rfl
    rw [e0] at h₃
    intro Γ p hΓ
    obtain ⟨_, W₂, σ₂, vs, le₂, R₂, r₂, h₄⟩ := h₃ Γ p hΓ
    cases r₂
    exact wpAny_mono (h₄ W₂ s₁ [u] R₂ (.cons (r₁.mono le₂) .nil)) (fun _ _ x => x.mono (le₁.trans le₂) fun _ _ y => y) (fun _ _ x => x.mono (le₁.trans le₂) fun _ _ y => y) Γ p hΓ
  | cons e rest =>
    rw [List.all_cons, Bool.and_eq_true] at ha
    refine callWith_method1 (wpAny_mono (h₁ W₁ s₁ pos R₁) ?_ fun _ _ x => x.mono le₁ fun _ _ y => y) (star_cons ha.1 _ _) (star_any ha.2 _ _)
    refine fun us s₂ zz => zz.elim fun W₂ σ₂ vs le₂ R₂ r₂ h₂ => ?_
    exact wpAny_mono (h₂ W₂ s₂ (u :: us) R₂ (.cons (r₁.mono le₂) r₂)) (fun _ _ x => x.mono (le₁.trans le₂) fun _ _ y => y) fun _ _ x => x.mono (le₁.trans le₂) fun _ _ y => y

/-! slices -/
/-! all, any -/
/-! exceptions -/
end
end Mine

set_option autoImplicit false
namespace Mine
open PySem PySem.W PySem.Calls PySem.Spec PyProof.Rows

/-! the rules by which a law is walked -/
structure Cx where
  pg : Pg
  scope : Scope
  ns : List Int
  lev : Nat
  qt : Bool

def okN (x : Str) : Bool := !(x == ("__debug__" : Str)) && !(x == ("__classdict__" : Str))
def relab (sc : Scope) : Scope := { sc with names := sc.names.map fun (n, k) => if k == .free then (n, .cell) else (n, k) }
def compOkB (sc csc : Scope) : Bool := csc.kind == .function && csc.names.all fun y => y.2 != .cell && (y.2 != .local || csc.names.lookup y.1 == some .local) && (y.2 != .free || (csc.names.lookup y.1 == some .free && sc.names.lookup y.1 == some .cell))
def varOk (sc : Scope) (x : Str) : Bool := sc.names.lookup x == some .local || sc.names.lookup x == some .cell
def tgtOk (f : Str → Bool) : Expr → Bool
  | .Name x _ => f x
  | .Tuple es _ _ => es.all fun e => match e with | .Name x _ => f x | _ => false
  | _ => false
def plainT : Expr → Bool
  | .UnaryOp .. | .BoolOp .. | .IfExp .. | .Compare .. => false
  | _ => true
def notSet : Expr → Bool
  | .Set .. => false
  | _ => true


def nmsOk (sc : Scope) : Bool := sc.names.all fun y => okN y.1

structure FxAt (c : Cx) (fx : Fx) : Prop where
  all : FxAll fx
  pg : fx.pg = c.pg
  sc : fx.env.scope = c.scope
  ns : fx.ns = c.ns
  lev : c.lev ≤ fx.lev
  qt : c.qt = true → fx.qt = true
  nk : nmsOk c.scope = true

theorem FxAt.kind {c : Cx} {fx : Fx} (a : FxAt c fx) (x : Str) : fx.env.kindOf x = c.scope.names.lookup x := by
  show fx.env.scope.names.lookup x = _
  rw [a.sc]
theorem FxAt.push {c : Cx} {fx : Fx} (F : FxAt c fx) {ps : List (Addr × Obj)} (a : FxAll (fx.pushL ps)) : FxAt c (fx.pushL ps) := ⟨a, F.pg, F.sc, F.ns, F.lev, F.qt, F.nk⟩
theorem FxAt.units {c : Cx} {fx : Fx} (F : FxAt c fx) : fx.A.units + 64 < cLine := by have := F.all.units; omega
theorem okN_of {x : Str} (h : okN x = true) : (x == ("__debug__" : Str)) = false ∧ (x == ("__classdict__" : Str)) = false := by
  unfold okN at h
  rw [Bool.and_eq_true, Bool.not_eq_true', Bool.not_eq_true'] at h
  exact h

theorem tgt_ok {f : Str → Bool} {t : Expr} {v : V} {bs : List (Str × V)} (h : tgtOk f t = true) (e : tgtV t v = some bs) : ∀ b ∈ bs, f b.1 = true := by
  unfold tgtV at e
  split at e
  · cases e
    intro b hb
    rw [List.mem_singleton.mp hb]
    exact h
  · rename_i es n p
    split at e
    · rename_i vs
      split at e
      · rename_i hlen
        have h' : (es.all fun e => match e with | .Name x _ => f x | _ => false) = true := h
        clear h
        revert vs bs
        induction es with
        | nil =>
          intro bs vs hlen e
          simp at e
          subst e
          exact fun b hb => by cases hb
        | cons e0 es ih =>
          intro bs vs hlen e
          cases vs with
          | nil => simp at hlen
          | cons v vs =>
            rw [List.zip_cons_cons, List.mapM_cons] at e
            rw [List.all_cons, Bool.and_eq_true] at h'
            cases e0 with
            | Name x p =>
              cases hr : ((es.zip vs).mapM nmV) with
              | none => rw [hr] at e; simp [nmV] at e
              | some bs' =>
                rw [hr] at e
                simp [nmV] at e
                subst e
                intro b hb
                rcases List.mem_cons.mp hb with rfl | hb
                · exact h'.1
                · exact ih h'.2 vs (by simpa using hlen) hr b hb
            | _ => simp [nmV] at e
      · cases e
    · cases e
  · cases e

theorem compOk_of {env : Env} {sc csc : Scope} (hs : env.scope = sc) (h : compOkB sc csc = true) : CompOk env csc := by
  unfold compOkB at h
  rw [Bool.and_eq_true, List.all_eq_true] at h
  obtain ⟨h1, h2⟩ := h
  have h3 : ∀ y ∈ csc.names, y.2 ≠ .cell ∧ (y.2 = .local → csc.names.lookup y.1 = some .local) ∧ (y.2 = .free → csc.names.lookup y.1 = some .free ∧ sc.names.lookup y.1 = some .cell) := fun y hy => by
    have := h2 y hy
    simp only [Bool.and_eq_true, Bool.or_eq_true, bne_iff_ne, beq_iff_eq, ne_eq] at this
    exact ⟨this.1.1, fun q => this.1.2.resolve_left fun z => z q, fun q => this.2.resolve_left fun z => z q⟩
  exact ⟨by simpa using h1, fun y hy => (h3 y hy).1, fun y hy => (h3 y hy).2.1, fun y hy q => ((h3 y hy).2.2 q).1, fun n hn => by
    show env.scope.names.lookup n = some .cell
    rw [hs]
    exact ((h3 _ (lookup_mem hn)).2.2 rfl).2⟩

theorem relabel_eq {env : Env} {csc : Scope} (co : CompOk env csc) (hk : env.scope.kind = .function) : relabel csc env = relab csc := by
  unfold relabel relab
  congr 1
  refine List.map_congr_left fun y hy => ?_
  obtain ⟨n, k⟩ := y
  dsimp only
  by_cases q : k = .free
  · subst q
    have := co.free n (co.frees _ hy rfl)
    simp [hk, this]
  · have : (k == NameKind.free) = false := by simpa using q
    simp [this]

theorem folded_of {iter : Expr} (h : notSet iter = true) (env : Env) (x : Value) : foldedSetIterable iter env x = pure x := by
  cases iter <;> first | rfl | cases h


theorem nms_at {sc : Scope} {x : Str} {k : NameKind} (h : nmsOk sc = true) (e : sc.names.lookup x = some k) : okN x = true := List.all_eq_true.mp h _ (lookup_mem e)
theorem FxAt.name {c : Cx} {fx : Fx} (F : FxAt c fx) {x : Str} {k : NameKind} (e : c.scope.names.lookup x = some k) : (x == ("__debug__" : Str)) = false ∧ (x == ("__classdict__" : Str)) = false := okN_of (nms_at F.nk e)
theorem FxAt.okName {c : Cx} {fx : Fx} (F : FxAt c fx) {σ : St} {W : Wd} {s : Shared} (R : Rep fx σ W s) {x : Str} {v : V} (hv : σ.loc x = some v) : (x == ("__debug__" : Str)) = false ∧ (x == ("__classdict__" : Str)) = false := by
  refine R.elim fun _ g m news G Fr N C => ?_
  obtain ⟨u, _, n⟩ := C.loc x v hv
  cases n with
  | loc a _ _ => exact F.name (by rw [← F.kind]; exact a)
  | comp a _ _ => exact F.name (by rw [← F.kind]; exact a)
  | cell a _ _ _ => rcases a with a | a <;> exact F.name (by rw [← F.kind]; exact a)
section
variable {fx : Fx} {X : XP} {σ : St}
theorem CmpT.mono {op : CmpOp} {a b : V} {Q Q' : V → St → Prop} (h : CmpT fx X op a b σ Q) (hq : ∀ v σ', Q v σ' → Q' v σ') : CmpT fx X op a b σ Q' :=
  fun W s u₁ u₂ R r₁ r₂ => wpAny_mono (h W s u₁ u₂ R r₁ r₂) (fun _ _ x => x.mono (.refl _) hq) fun _ _ x => x
theorem TruT.mono {a : V} {Q Q' : Bool → St → Prop} (h : TruT fx X a σ Q) (hq : ∀ v σ', Q v σ' → Q' v σ') : TruT fx X a σ Q' :=
  fun W s u R r => wpAny_mono (h W s u R r) (fun _ _ x => x.mono (.refl _) hq) fun _ _ x => x
end
theorem plainT_of {e : Expr} (h : plainT e = true) (env : Env) (whole : Sem Value) : isTrue e env whole = (do let v ← whole; standAt e.pos; holding [v] (truthy v)) := by
  cases e <;> first | rfl | cases h


theorem isVar_of {c : Cx} {fx : Fx} (F : FxAt c fx) (hL : fx.env.locals = fx.L) {x : Str} (h : varOk c.scope x = true) : isVar fx x := by
  refine ⟨hL, ?_⟩
  rw [F.kind]
  simpa [varOk] using h

abbrev Lo := Str → Option V
abbrev KV := V → Lo → List O → Prop
abbrev KB := Bool → Lo → List O → Prop
abbrev KF := Fl → Lo → List O → Prop
abbrev KI := List V → (St → Prop) → Lo → List O → Prop
@[irreducible] def E (c : Cx) (X : XP) (e : Expr) (l : Lo) (hp : List O) (K : KV) : Prop := ∀ fx, FxAt c fx → EvE fx X e ⟨l, hp⟩ fun v σ => K v σ.loc σ.hp
@[irreducible] def Es (c : Cx) (X : XP) (es : List Expr) (l : Lo) (hp : List O) (K : List V → Lo → List O → Prop) : Prop := ∀ fx, FxAt c fx → EvEs fx X es ⟨l, hp⟩ fun v σ => K v σ.loc σ.hp
@[irreducible] def EL (c : Cx) (X : XP) (op : BoolOp) (es : List Expr) (l : Lo) (hp : List O) (K : KV) : Prop := ∀ fx, FxAt c fx → ∀ pos, EvE fx X (.BoolOp op es pos) ⟨l, hp⟩ fun v σ => K v σ.loc σ.hp
@[irreducible] def B (c : Cx) (X : XP) (e : Expr) (l : Lo) (hp : List O) (K : KB) : Prop := ∀ fx, FxAt c fx → EvB fx X e ⟨l, hp⟩ fun v σ => K v σ.loc σ.hp
@[irreducible] def BL (c : Cx) (X : XP) (op : BoolOp) (es : List Expr) (l : Lo) (hp : List O) (K : KB) : Prop := ∀ fx, FxAt c fx → ∀ pos, EvB fx X (.BoolOp op es pos) ⟨l, hp⟩ fun v σ => K v σ.loc σ.hp
@[irreducible] def I (c : Cx) (X : XP) (e : Expr) (l : Lo) (hp : List O) (P : KI) : Prop := ∀ fx, FxAt c fx → IterT fx X e ⟨l, hp⟩ fun its need σ => P its need σ.loc σ.hp
@[irreducible] def S (c : Cx) (X : XP) (st : Stmt) (l : Lo) (hp : List O) (K : KF) : Prop := ∀ fx, FxAt c fx → fx.env.locals = fx.L → EvS fx X st ⟨l, hp⟩ fun v σ => K v σ.loc σ.hp
@[irreducible] def Ss (c : Cx) (X : XP) (ss : List Stmt) (l : Lo) (hp : List O) (K : KF) : Prop := ∀ fx, FxAt c fx → fx.env.locals = fx.L → EvSs fx X ss ⟨l, hp⟩ fun v σ => K v σ.loc σ.hp
@[irreducible] def Bin (c : Cx) (X : XP) (op : Operator) (a b : V) (l : Lo) (hp : List O) (K : KV) : Prop := ∀ fx, FxAt c fx → BinT fx X op a b ⟨l, hp⟩ fun v σ => K v σ.loc σ.hp
@[irreducible] def Cmp (c : Cx) (X : XP) (op : CmpOp) (a b : V) (l : Lo) (hp : List O) (K : KV) : Prop := ∀ fx, FxAt c fx → CmpT fx X op a b ⟨l, hp⟩ fun v σ => K v σ.loc σ.hp
@[irreducible] def Tru (c : Cx) (X : XP) (a : V) (l : Lo) (hp : List O) (K : KB) : Prop := ∀ fx, FxAt c fx → TruT fx X a ⟨l, hp⟩ fun v σ => K v σ.loc σ.hp
@[irreducible] def CB (c : Cx) (X : XP) (id : String) (vs : List V) (l : Lo) (hp : List O) (K : KV) : Prop := ∀ fx, FxAt c fx → CallT fx X (.builtin id) vs ⟨l, hp⟩ fun v σ => K v σ.loc σ.hp
@[irreducible] def CT (c : Cx) (X : XP) (T : String) (vs : List V) (l : Lo) (hp : List O) (K : KV) : Prop := ∀ fx, FxAt c fx → CallT fx X (.type T) vs ⟨l, hp⟩ fun v σ => K v σ.loc σ.hp
@[irreducible] def Sub (c : Cx) (X : XP) (o i : V) (l : Lo) (hp : List O) (K : KV) : Prop := ∀ fx, FxAt c fx → ∀ value slice, notSlice slice = true → SubT fx X value slice o i ⟨l, hp⟩ fun v σ => K v σ.loc σ.hp
@[irreducible] def Srv (c : Cx) (v : V) (l : Lo) (hp : List O) (P : KI) : Prop := ∀ fx, FxAt c fx → SrvT fx v ⟨l, hp⟩ fun its need σ => P its need σ.loc σ.hp
@[irreducible] def Sz (vs : List V) (P : Prop) : Prop := vs.length ≤ sizeLine ∧ P
@[irreducible] def If (b : Bool) (P Q : Prop) : Prop := if b then P else Q
@[irreducible] def Lst (ov : V) (hp : List O) (P : Nat → Prop) : Prop := ∃ i vs, ov = .ref i ∧ hp[i]? = some (.list vs) ∧ P i
@[irreducible] def Rng (vs : List V) (P : List V → Prop) : Prop := RngP vs P
/-- what is asked at the side of a step -/
structure Side (P : Prop) : Prop where
  h : P
structure CxIs (c : Cx) (pg : Pg) (sc : Scope) (ns : List Int) (lev : Nat) (qt : Bool) : Prop where
  eq : c = ⟨pg, sc, ns, lev, qt⟩
section
variable {c : Cx} {X : XP} {l : Lo} {hp : List O} {K : KV} {p q r : Pos} {pg : Pg} {sc : Scope} {ns : List Int} {lev : Nat} {qt : Bool}

theorem e_int {i : Int} {k : Nat} (h : K (.int i) l hp) : E c X (.Constant (.int i) k p) l hp K := by unfold E; exact fun _ _ => evConstInt h
theorem e_none {k : Nat} (h : K .none l hp) : E c X (.Constant .none k p) l hp K := by unfold E; exact fun _ _ => evConstNone h
theorem e_name {x : Str} {v : V} (e : l x = some v) (h : K v l hp) : E c X (.Name x p) l hp K := by
  unfold E
  exact fun fx F W s R => evName F.all.ok e h (F.okName R e).1 (F.okName R e).2 W s R
theorem e_glob {x : Str} {v : Value} (hc : CxIs c pg sc ns lev qt) (k : sc.names.lookup x = some .globalImplicit) (g : pg.gl x = some v) (h : K (gV v) l hp) : E c X (.Name x p) l hp K := by
  obtain ⟨rfl⟩ := hc
  unfold E
  exact fun fx F => evGlob F.all (by rw [F.pg]; exact g) (by rw [F.kind]; exact k) (F.name k).1 h
theorem e_bin {a b : Expr} {op : Operator} (h : E c X a l hp fun v l hp => E c X b l hp fun w l hp => Bin c X op v w l hp K) : E c X (.BinOp a op b p) l hp K := by
  unfold E Bin at *
  exact fun fx F => evBin ((h fx F).mono fun v σ h₁ => (h₁ fx F).mono fun w σ' h₂ => h₂ fx F)
theorem e_boolop {op : BoolOp} {vs : List Expr} (h : EL c X op vs l hp K) : E c X (.BoolOp op vs p) l hp K := by
  unfold E EL at *
  exact fun fx F => h fx F p
theorem el_one {op : BoolOp} {e : Expr} (h : E c X e l hp K) : EL c X op [e] l hp K := by
  unfold E EL at *
  exact fun fx F _ => evBoolOne (h fx F)
theorem el_and {e e' : Expr} {r : List Expr} (h : E c X e l hp fun v l hp => Tru c X v l hp fun b l hp => If b (EL c X .And (e' :: r) l hp K) (K v l hp)) : EL c X .And (e :: e' :: r) l hp K := by
  unfold E EL Tru If at *
  refine fun fx F pos => evAnd ((h fx F).mono fun v σ h₁ => (h₁ fx F).mono fun b σ' h₂ => ?_)
  cases b with
  | true => exact h₂ fx F pos
  | false => exact h₂
theorem e_cmp {a b : Expr} {op : CmpOp} (hm : behindInMarks op b = false) (h : E c X a l hp fun v l hp => E c X b l hp fun w l hp => Cmp c X op v w l hp K) : E c X (.Compare a [op] [b] p) l hp K := by
  unfold E Cmp at *
  exact fun fx F => evCmp1 ((h fx F).mono fun v σ h₁ => (h₁ fx F).mono fun w σ' h₂ => h₂ fx F) hm
theorem e_callB {f : Str} {a : Expr} {args : List Expr} {id : String} (hc : CxIs c pg sc ns lev qt) (g : pg.gl f = some (.builtin id)) (k : sc.names.lookup f = some .globalImplicit) (st : (a :: args).all noStar = true) (h : Es c X (a :: args) l hp fun vs l hp => CB c X id vs l hp K) : E c X (.Call (.Name f q) (a :: args) [] p) l hp K := by
  obtain ⟨rfl⟩ := hc
  unfold E
  unfold Es CB at h
  exact fun fx F => evCallB F.all (by rw [F.pg]; exact g) (by rw [F.kind]; exact k) (F.name k).1 st ((h fx F).mono fun vs σ h₁ => h₁ fx F)
theorem e_callT {f : Str} {a : Expr} {args : List Expr} {T : String} (hc : CxIs c pg sc ns lev qt) (g : pg.gl f = some (.type T)) (k : sc.names.lookup f = some .globalImplicit) (st : (a :: args).all noStar = true) (h : Es c X (a :: args) l hp fun vs l hp => CT c X T vs l hp K) : E c X (.Call (.Name f q) (a :: args) [] p) l hp K := by
  obtain ⟨rfl⟩ := hc
  unfold E
  unfold Es CT at h
  exact fun fx F => evCallTy F.all (by rw [F.pg]; exact g) (by rw [F.kind]; exact k) (F.name k).1 st ((h fx F).mono fun vs σ h₁ => h₁ fx F)
theorem e_callF {f : Str} {a : Expr} {args : List Expr} {d : Addr} (hc : CxIs c pg sc ns lev qt) (g : pg.gl f = some (.ref d)) (i : fnIn pg.K d = true) (k : sc.names.lookup f = some .globalImplicit) (st : (a :: args).all noStar = true) (h : Es c X (a :: args) l hp fun vs l hp => CallOK pg lev qt ns d vs hp (fun d hp' => X d ⟨l, hp'⟩) (fun v hp' => K v l hp')) : E c X (.Call (.Name f q) (a :: args) [] p) l hp K := by
  obtain ⟨rfl⟩ := hc
  unfold E
  unfold Es at h
  exact fun fx F => evCallF F.all (by rw [F.pg]; exact g) (by rw [F.kind]; exact k) (F.name k).1 (by rw [F.pg]; exact i) st ((h fx F).mono fun vs σ h₁ => callT_of (qt := qt) F.all F.lev F.qt (by rw [F.pg, F.ns]; exact h₁))
theorem lst_ref {i : Nat} {vs : List V} {P : Nat → Prop} (e : hp[i]? = some (.list vs)) (h : P i) : Lst (.ref i) hp P := by
  unfold Lst
  exact ⟨i, vs, rfl, e, h⟩
theorem e_append {o a : Expr} (hb : baseOk o = true) (ha : [a].all noStar = true) (hl : (q.endLine == p.line) = true) (h : E c X o l hp fun ov l₁ hp₁ => Lst ov hp₁ fun i => Es c X [a] l₁ hp₁ fun vs l hp => CB c X "list.append" (.ref i :: vs) l hp K) : E c X (.Call (.Attribute o "append" q) [a] [] p) l hp K := by
  unfold E Lst Es CB at *
  refine fun fx F => evMeth hb ha (by simp) hl ((h fx F).mono fun ov σ h₁ => ?_)
  obtain ⟨i, vs, rfl, e, h₂⟩ := h₁
  exact ⟨_, getM_list e PySem.F.slot_list_append PySem.F.type_list_append, (h₂ fx F).mono fun vs σ h₃ => h₃ fx F⟩
theorem e_sub {a b : Expr} (nsl : notSlice b = true) (h : E c X a l hp fun v l hp => E c X b l hp fun w l hp => Sub c X v w l hp K) : E c X (.Subscript a b p) l hp K := by
  unfold E Sub at *
  exact fun fx F => evSub ((h fx F).mono fun v σ h₁ => (h₁ fx F).mono fun w σ' h₂ => h₂ fx F a b nsl)
theorem sz {vs : List V} {P : Prop} (s : Nat.ble vs.length 1000 = true) (h : P) : Sz vs P := by
  unfold Sz
  exact ⟨Nat.le_trans (Nat.le_of_ble_eq_true s) (by rw [sizeLine_eq]; decide), h⟩
theorem e_tuple {es : List Expr} {k : Nat} (h : Es c X es l hp fun vs l hp => Sz vs (K (.tup vs) l hp)) : E c X (.Tuple es k p) l hp K := by
  unfold E
  unfold Es Sz at h
  exact fun fx F => evTuple (h fx F)
theorem e_list {es : List Expr} (h : Es c X es l hp fun vs l hp => Sz vs (K (.ref hp.length) l (hp ++ [.list vs]))) : E c X (.List es p) l hp K := by
  unfold E
  unfold Es Sz at h
  exact fun fx F => evList (h fx F)
theorem es_nil {K : List V → Lo → List O → Prop} (h : K [] l hp) : Es c X [] l hp K := by unfold Es; exact fun _ _ => evEs_nil h
theorem es_cons {K : List V → Lo → List O → Prop} {e : Expr} {r : List Expr} (s : noStar e = true) (h : E c X e l hp fun v l hp => Es c X r l hp fun vs l hp => K (v :: vs) l hp) : Es c X (e :: r) l hp K := by
  unfold E Es at *
  exact fun fx F => evEs_cons ((h fx F).mono fun v σ h₁ => h₁ fx F) (star_cons s _)

theorem bin_add {x y : Int} (h : K (.int (x + y)) l hp) : Bin c X .Add (.int x) (.int y) l hp K := by unfold Bin; exact fun _ _ => bin_addT h
theorem bin_sub {x y : Int} (h : K (.int (x - y)) l hp) : Bin c X .Sub (.int x) (.int y) l hp K := by unfold Bin; exact fun _ _ => bin_subT h
theorem bin_mul {x y : Int} (s : Side (x.natAbs < 2 ^ 64 ∨ y.natAbs < 2 ^ 64)) (h : K (.int (x * y)) l hp) : Bin c X .Mult (.int x) (.int y) l hp K := by unfold Bin; exact fun _ _ => bin_mulT s.h h
theorem bin_mod {x y : Int} (s : Side (0 < y)) (h : K (.int (x % y)) l hp) : Bin c X .Mod (.int x) (.int y) l hp K := by unfold Bin; exact fun _ _ => bin_modT s.h h
theorem bin_div {x y : Int} (s : Side (0 < y ∧ y < 2 ^ 30)) (h : K (.int (x / y)) l hp) : Bin c X .FloorDiv (.int x) (.int y) l hp K := by unfold Bin; exact fun _ _ => bin_divT s.h.1 s.h.2 h
theorem bin_pow {x y : Int} (s : Side (0 ≤ y ∧ y ≤ 1000000 ∧ x.natAbs < 2 ^ 64)) (h : K (.int (x ^ y.toNat)) l hp) : Bin c X .Pow (.int x) (.int y) l hp K := by unfold Bin; exact fun _ _ => bin_powT s.h h
theorem bin_pow18 (h : K (.int 1000000000000000000) l hp) : Bin c X .Pow (.int 10) (.int 18) l hp K := bin_pow ⟨by decide⟩ h
theorem bin_pow14 (h : K (.int 100000000000000) l hp) : Bin c X .Pow (.int 10) (.int 14) l hp K := bin_pow ⟨by decide⟩ h
theorem cmp_lt {x y : Int} (h : K (.bool (decide (x < y))) l hp) : Cmp c X .Lt (.int x) (.int y) l hp K := by unfold Cmp; exact fun _ _ => cmp_ltT h
theorem cmp_gt {x y : Int} (h : K (.bool (decide (y < x))) l hp) : Cmp c X .Gt (.int x) (.int y) l hp K := by unfold Cmp; exact fun _ _ => cmp_gtT h
theorem cmp_deq {x y : V} {dx dy : PyData} (h1 : Dat hp x dx) (h2 : Dat hp y dy) (h3 : PySem.SeqAt.shaped dx = true) (h4 : PySem.SeqAt.shaped dy = true) (h : K (.bool (PyData.eqv dx dy)) l hp) : Cmp c X .Eq x y l hp K := by unfold Cmp; exact fun fx F => cmp_eqT F.units h1 h2 h3 h4 h
theorem cmp_dne {x y : V} {dx dy : PyData} (h1 : Dat hp x dx) (h2 : Dat hp y dy) (h3 : PySem.SeqAt.shaped dx = true) (h4 : PySem.SeqAt.shaped dy = true) (h : K (.bool (!PyData.eqv dx dy)) l hp) : Cmp c X .NotEq x y l hp K := by unfold Cmp; exact fun fx F => cmp_neT F.units h1 h2 h3 h4 h
theorem eqv_int (x y : Int) : PyData.eqv (.int x) (.int y) = decide (x = y) := by simp [PyData.eqv]; rfl
theorem cmp_eq {x y : Int} (h : K (.bool (decide (x = y))) l hp) : Cmp c X .Eq (.int x) (.int y) l hp K := cmp_deq (.int x) (.int y) rfl rfl (by rw [eqv_int]; exact h)
theorem cmp_is_nn (h : K (.bool true) l hp) : Cmp c X .Is .none .none l hp K := by unfold Cmp; exact fun _ _ => (is_plainT is_nn).1 h
theorem cmp_is_vn {v : V} (s : someV v = true) (h : K (.bool false) l hp) : Cmp c X .Is v .none l hp K := by unfold Cmp; exact fun _ _ => (is_plainT (is_vn s)).1 h
theorem tru_bool {b : Bool} {K : KB} (h : K b l hp) : Tru c X (.bool b) l hp K := by unfold Tru; exact fun _ _ => tru_boolT h
theorem cb_len_ref {i : Nat} {vs : List V} (e : hp[i]? = some (.list vs)) (s : Side (vs.length < 2 ^ 63)) (h : K (.int vs.length) l hp) : CB c X "len" [.ref i] l hp K := by unfold CB; exact fun _ _ => len_refT e s.h h
theorem cb_len_scr (hc : CxIs c pg sc ns lev qt) (h : K (.int ns.length) l hp) : CB c X "len" [.scr] l hp K := by
  obtain ⟨rfl⟩ := hc
  unfold CB
  exact fun fx F => len_scrT F.all (by rw [F.ns]; exact h)
theorem isi_rl {i : Nat} {vs : List V} (e : hp[i]? = some (.list vs)) (h : K (.bool true) l hp) : CB c X "isinstance" [.ref i, .glob (.type "list")] l hp K := by unfold CB; exact fun _ _ => isi_of (fun W s u Q E R r q => by obtain ⟨_, _, _, rfl, _, h2, _⟩ := R.list_at e r; exact isi_list h2 rfl (by simp) q) h
theorem cb_append {i : Nat} {vs : List V} {v : V} (e : hp[i]? = some (.list vs)) (s : Side (vs.length ≤ sizeLine)) (h : K .none l (hp.set i (.list (vs ++ [v])))) : CB c X "list.append" [.ref i, v] l hp K := by unfold CB; exact fun _ _ => append_ok e s.h h
theorem ct_list_ref {i : Nat} {vs : List V} (e : hp[i]? = some (.list vs)) (s : Side (vs.length ≤ sizeLine)) (h : K (.ref hp.length) l (hp ++ [.list vs])) : CT c X "list" [.ref i] l hp K := by unfold CT; exact fun _ _ => listOf_ok (.inl ⟨_, rfl, e⟩) s.h h

theorem getI_nat {xs : List V} {k : Int} {v : V} (s : 0 ≤ k) (e : xs[k.toNat]? = some v) : getI xs k = some v := by
  unfold getI
  rw [if_pos s]
  exact e
theorem sb_ref {i : Nat} {xs : List V} {k : Int} {v : V} (e : hp[i]? = some (.list xs)) (s : Side (0 ≤ k ∧ k < 2 ^ 63)) (g : xs[k.toNat]? = some v) (h : K v l hp) : Sub c X (.ref i) (.int k) l hp K := by
  unfold Sub
  exact fun _ _ _ _ nsl => sub_list nsl e ⟨by have := s.h; omega, s.h.2⟩ (getI_nat s.h.1 g) h
theorem sb_tup {xs : List V} {k : Int} {v : V} (s : Side (0 ≤ k ∧ k < 2 ^ 63)) (g : xs[k.toNat]? = some v) (h : K v l hp) : Sub c X (.tup xs) (.int k) l hp K := by
  unfold Sub
  exact fun _ _ _ _ nsl => sub_tup nsl ⟨by have := s.h; omega, s.h.2⟩ (getI_nat s.h.1 g) h
theorem sb_scr {k : Int} {x : Int} (hc : CxIs c pg sc ns lev qt) (s : Side (0 ≤ k)) (g : ns[k.toNat]? = some x) (h : K (.int x) l hp) : Sub c X .scr (.int k) l hp K := by
  obtain ⟨rfl⟩ := hc
  unfold Sub
  exact fun fx F _ _ nsl => sub_scr F.all nsl s.h (by rw [F.ns]; exact g) h
theorem b_boolop {op : BoolOp} {es : List Expr} {K : KB} (h : BL c X op es l hp K) : B c X (.BoolOp op es p) l hp K := by
  unfold B BL at *
  exact fun fx F => h fx F p
theorem bl_or_nil {K : KB} (h : K false l hp) : BL c X .Or [] l hp K := by unfold BL; exact fun _ _ _ => evB_or_nil h
theorem bl_or {e : Expr} {r : List Expr} {K : KB} (h : B c X e l hp fun b l hp => If b (K true l hp) (BL c X .Or r l hp K)) : BL c X .Or (e :: r) l hp K := by
  unfold B BL If at *
  refine fun fx F pos => evB_or ((h fx F).mono fun b σ h₁ => ?_)
  cases b with
  | true => exact h₁
  | false => exact h₁ fx F pos
theorem b_cmp {a b : Expr} {op : CmpOp} {K : KB} (hm : behindInMarks op b = false) (h : E c X a l hp fun v l hp => E c X b l hp fun w l hp => Cmp c X op v w l hp fun r l hp => Tru c X r l hp K) : B c X (.Compare a [op] [b] p) l hp K := by
  unfold B
  unfold E Cmp Tru at h
  exact fun fx F => evB_cmp1 ((h fx F).mono fun v σ h₁ => (h₁ fx F).mono fun w σ' h₂ => (h₂ fx F).mono fun r σ'' h₃ => h₃ fx F) hm
theorem b_plain {e : Expr} {K : KB} (k : plainT e = true) (h : E c X e l hp fun v l hp => Tru c X v l hp K) : B c X e l hp K := by
  unfold B
  unfold E Tru at h
  exact fun fx F => evB_plain ((h fx F).mono fun v σ h₁ => h₁ fx F) (plainT_of k)
theorem if_b {b : Bool} {P Q : Prop} (h : b = true → P) (h' : b = false → Q) : If b P Q := by
  unfold If
  cases b
  · exact h' rfl
  · exact h rfl
theorem if_t {P Q : Prop} (h : P) : If true P Q := by
  unfold If
  exact h
theorem if_f {P Q : Prop} (h : Q) : If false P Q := by
  unfold If
  exact h
theorem if_decide {P A B : Prop} [d : Decidable P] (h : P → A) (h' : ¬ P → B) : If (decide P) A B := if_b (fun q => h (of_decide_eq_true q)) (fun q => h' (of_decide_eq_false q))
theorem rng1 {b : Int} {P : List V → Prop} (s : Side (-(2 ^ 62) ≤ b ∧ b < 2 ^ 62)) (h : P (rngItems 0 b.toNat)) : Rng [.int b] P := by
  unfold Rng
  exact .inl ⟨b, rfl, s.h, h⟩
theorem rng2 {a b : Int} {P : List V → Prop} (s : Side ((-(2 ^ 62) ≤ a ∧ a < 2 ^ 62) ∧ (-(2 ^ 62) ≤ b ∧ b < 2 ^ 62))) (h : P (rngItems a (b - a).toNat)) : Rng [.int a, .int b] P := by
  unfold Rng
  exact .inr ⟨a, b, rfl, s.h, h⟩
theorem i_range {f : Str} {a : Expr} {args : List Expr} {P : KI} (hc : CxIs c pg sc ns lev true) (g : pg.gl f = some (.type "range")) (k : sc.names.lookup f = some .globalImplicit) (st : (a :: args).all noStar = true) (h : Es c X (a :: args) l hp fun vs l hp => Rng vs fun its => P its (fun _ => True) l hp) :
    I c X (.Call (.Name f q) (a :: args) [] p) l hp P := by
  obtain ⟨rfl⟩ := hc
  unfold I
  unfold Es Rng at h
  exact fun fx F => iter_range F.all (F.qt rfl) (by rw [F.pg]; exact g) (by rw [F.kind]; exact k) (F.name k).1 st (h fx F)
theorem i_val {e : Expr} {P : KI} (h : E c X e l hp fun v l hp => Srv c v l hp P) : I c X e l hp P := by
  unfold I
  unfold E Srv at h
  exact fun fx F => iter_val ((h fx F).mono fun v σ h₁ => h₁ fx F)
theorem srv_ref {i : Nat} {its : List V} {P : KI} (hc : CxIs c pg sc ns lev true) (e : hp[i]? = some (.list its)) (h : P its (fun σ' => σ'.hp[i]? = some (.list its)) l hp) : Srv c (.ref i) l hp P := by
  obtain ⟨rfl⟩ := hc
  unfold Srv
  exact fun fx F => srv_refT F.all (F.qt rfl) e h
/-! comprehensions -/
def compCk (sc csc : Scope) (t : Expr) : Bool := compOkB sc csc && nmsOk csc && tgtOk (fun x => csc.names.lookup x == some .local) t
theorem nms_relab {csc : Scope} (h : nmsOk csc = true) : nmsOk (relab csc) = true := by
  unfold nmsOk relab
  rw [List.all_map]
  refine List.all_eq_true.mpr fun y hy => ?_
  have := List.all_eq_true.mp h y hy
  dsimp only [Function.comp]
  split <;> exact this
@[irreducible] def Comp (c : Cx) (elt t : Expr) (ifs : List Expr) (csc : Scope) (its : List V) (need : St → Prop) (l : Lo) (hp : List O) (K : List O → Prop) : Prop :=
  ∃ J, (∀ fx, FxAt c fx → CompJ fx elt t ifs csc its need ⟨l, hp⟩ J) ∧ ∀ hp', J its.length hp' → K hp'
theorem e_comp {elt t iter : Expr} {ifs : List Expr} {csc : Scope} (hc : CxIs c pg sc ns lev true) (ck : compCk sc csc t = true) (ns' : notSet iter = true) (h : I c X iter l hp fun its need l hp => Comp c elt t ifs csc its need l hp fun hp' => K (.ref hp.length) l hp') : E c X (.ListComp elt [⟨t, iter, ifs, 0⟩] csc p) l hp K := by
  obtain ⟨rfl⟩ := hc
  unfold compCk at ck
  simp only [Bool.and_eq_true] at ck
  unfold E
  unfold I Comp at h
  exact fun fx F => evComp F.all (F.qt rfl) (compOk_of F.sc ck.1.1) (folded_of ns' _) ((h fx F).mono fun its need σ ⟨J, h1, h2⟩ => ⟨J, h1 fx F, h2⟩)
theorem s_comp {x : Str} {elt t iter : Expr} {ifs : List Expr} {csc : Scope} {K : KF} (hc : CxIs c pg sc ns lev true) (kx : varOk sc x = true) (ck : compCk sc csc t = true) (ns' : notSet iter = true) (h : I c X iter l hp fun its need l hp => Comp c elt t ifs csc its need l hp fun hp' => K .next (setN l x (.ref hp.length)) hp') : S c X (.Assign [.Name x q] (.ListComp elt [⟨t, iter, ifs, 0⟩] csc r) p) l hp K := by
  obtain ⟨rfl⟩ := hc
  unfold compCk at ck
  simp only [Bool.and_eq_true] at ck
  unfold S
  unfold I Comp at h
  exact fun fx F hL => evAssignComp F.all (F.qt rfl) (isVar_of F hL kx) (compOk_of F.sc ck.1.1) (folded_of ns' _) ((h fx F).mono fun its need σ ⟨J, h1, h2⟩ => ⟨J, h1 fx F, h2⟩)
/-- a comprehension with no test, by a relation -/
theorem comp_gen (hc : CxIs c pg sc ns lev qt) {elt t : Expr} {csc : Scope} {its : List V} {need : St → Prop} {K : List O → Prop} (ck : compCk sc csc t = true) (R : Nat → V → Prop) (hl : its.length ≤ sizeLine) (hneed : ∀ vs : List V, need ⟨l, hp ++ [.list vs]⟩)
    (turn : ∀ (k : Nat) (hk : k < its.length) (vs : List V), vs.length = k → (∀ (j : Nat) (hj : j < vs.length), R j vs[j]) → ∃ bs, tgtV t its[k] = some bs ∧ ∀ c', CxIs c' pg (relab csc) ns lev qt → E c' X0 elt (setAll (compLoc csc l) bs) (hp ++ [.list vs]) (fun v _ hp' => hp' = hp ++ [.list vs] ∧ R k v))
    (fin : ∀ vs : List V, vs.length = its.length → (∀ (j : Nat) (hj : j < vs.length), R j vs[j]) → K (hp ++ [.list vs])) : Comp c elt t [] csc its need l hp K := by
  obtain ⟨rfl⟩ := hc
  unfold compCk at ck
  simp only [Bool.and_eq_true] at ck
  unfold Comp
  refine ⟨fun k hp' => ∃ vs : List V, vs.length = k ∧ (∀ (j : Nat) (hj : j < vs.length), R j vs[j]) ∧ hp' = hp ++ [.list vs], fun fx F => ⟨⟨[], rfl, fun j hj => by simp at hj, rfl⟩, fun k hp' ⟨vs, _, _, e⟩ => e ▸ hneed vs, hl, ?_⟩, fun hp' ⟨vs, e1, e2, e3⟩ => e3 ▸ fin vs e1 e2⟩
  rintro k hp' hk ⟨vs, hv, hR, rfl⟩
  obtain ⟨bs, e, x⟩ := turn k hk vs hv hR
  have co := compOk_of F.sc ck.1.1
  refine ⟨bs, e, fun b hb => by simpa using tgt_ok ck.2 e b hb, fun fc allc e1 e2 e3 e5 e4 => evTs_nil ?_⟩
  have x := x _ ⟨rfl⟩
  unfold E at x
  refine (x fc ⟨allc, e1.trans F.pg, e4.trans (relabel_eq co F.all.ok.kind), e2.trans F.ns, by rw [e3]; exact F.lev, fun z => e5.trans (F.qt z), nms_relab ck.1.2⟩).mono fun v σ ⟨e1, e2⟩ => ?_
  refine ⟨vs, by rw [e1]; simp, by omega, vs ++ [v], by simp [hv], fun j hj => ?_, by rw [e1]; simp⟩
  rcases Nat.lt_or_ge j vs.length with q | q
  · rw [List.getElem_append_left q]
    exact hR j q
  · have : j = vs.length := by simp at hj; omega
    subst this
    simp
    rw [hv]
    exact e2

theorem s_ret {e : Expr} {K : KF} (h : E c X e l hp fun v l hp => K (.ret v) l hp) : S c X (.Return (some e) p) l hp K := by
  unfold S
  unfold E at h
  exact fun fx F _ => evReturn (h fx F)
theorem s_expr {e : Expr} {K : KF} (nc : notComp e = true) (h : E c X e l hp fun _ l hp => K .next l hp) : S c X (.Expr e p) l hp K := by
  unfold S
  unfold E at h
  exact fun fx F _ => evExpr F.all.ok (h fx F) nc
theorem s_asg {x : Str} {e : Expr} {K : KF} (hc : CxIs c pg sc ns lev qt) (nc : notComp e = true) (kx : varOk sc x = true) (h : E c X e l hp fun v l hp => K .next (setN l x v) hp) : S c X (.Assign [.Name x q] e p) l hp K := by
  obtain ⟨rfl⟩ := hc
  unfold S
  unfold E at h
  exact fun fx F hL => evAssignName F.all (isVar_of F hL kx) (h fx F) nc
theorem s_if {t : Expr} {b o : List Stmt} {K : KF} (h : B c X t l hp fun d l hp => If d (Ss c X b l hp K) (Ss c X o l hp K)) : S c X (.If t b o p) l hp K := by
  unfold S
  unfold B If Ss at h
  refine fun fx F hL => evIf ((h fx F).mono fun d σ h₁ => ?_)
  cases d with
  | true => exact h₁ fx F hL
  | false => exact h₁ fx F hL
theorem ss_nil {K : KF} (h : K .next l hp) : Ss c X [] l hp K := by unfold Ss; exact fun _ _ _ => evSs_nil h
theorem ss_cons {st : Stmt} {r : List Stmt} {K : KF} (h : S c X st l hp fun fl l hp => match fl with | .next => Ss c X r l hp K | f => K f l hp) : Ss c X (st :: r) l hp K := by
  unfold Ss
  unfold S at h
  refine fun fx F hL => evSs_cons ((h fx F hL).mono fun fl σ h₁ => ?_)
  cases fl with
  | next =>
    dsimp only at h₁
    unfold Ss at h₁
    exact h₁ fx F hL
  | _ => exact h₁
theorem ss_asg {ts : List Expr} {e : Expr} {r : List Stmt} {K : KF} (h : S c X (.Assign ts e p) l hp fun fl l hp => match fl with | .next => Ss c X r l hp K | f => K f l hp) : Ss c X (.Assign ts e p :: r) l hp K := ss_cons h
theorem ss_expr {e : Expr} {r : List Stmt} {K : KF} (h : S c X (.Expr e p) l hp fun fl l hp => match fl with | .next => Ss c X r l hp K | f => K f l hp) : Ss c X (.Expr e p :: r) l hp K := ss_cons h
theorem ss_ret {e : Option Expr} {r : List Stmt} {K : KF} (h : S c X (.Return e p) l hp fun fl l hp => match fl with | .next => Ss c X r l hp K | f => K f l hp) : Ss c X (.Return e p :: r) l hp K := ss_cons h
theorem ss_if {t : Expr} {b o r : List Stmt} {K : KF} (h : B c X t l hp fun d l hp => If d (Ss c X b l hp (fun fl l hp => match fl with | .next => Ss c X r l hp K | f => K f l hp)) (Ss c X o l hp (fun fl l hp => match fl with | .next => Ss c X r l hp K | f => K f l hp))) : Ss c X (.If t b o p :: r) l hp K := ss_cons (s_if h)
theorem s_mono {st : Stmt} {K K' : KF} (h : S c X st l hp K) (hk : ∀ fl l hp, K fl l hp → K' fl l hp) : S c X st l hp K' := by
  unfold S at *
  exact fun fx F hL => (h fx F hL).mono fun _ _ x => hk _ _ _ x
theorem ss_cut {st : Stmt} {rest : List Stmt} {K : KF} (P : Lo → List O → Prop) (h1 : S c X st l hp (fun fl l hp => fl = .next ∧ P l hp)) (h2 : ∀ l hp, P l hp → Ss c X rest l hp K) : Ss c X (st :: rest) l hp K :=
  ss_cons (s_mono h1 fun fl l hp ⟨e, x⟩ => by subst e; exact h2 l hp x)
theorem s_for {t iter : Expr} {b : List Stmt} {K : KF} (hc : CxIs c pg sc ns lev true) (tk : tgtOk (varOk sc) t = true) (ns' : notSet iter = true)
    (h : I c X iter l hp fun its need l hp => ∃ J : Nat → Lo → List O → Prop, J 0 l hp ∧ (∀ k l hp, J k l hp → need ⟨l, hp⟩) ∧
      (∀ (k : Nat) (hk : k < its.length) l hp, J k l hp → ∃ bs, tgtV t its[k] = some bs ∧ Ss c X b (setAll l bs) hp fun fl l hp => match fl with | .next | .cont => J (k + 1) l hp | .brk => K .next l hp | .ret v => K (.ret v) l hp) ∧
      ∀ l hp, J its.length l hp → K .next l hp) : S c X (.For t iter b [] p) l hp K := by
  obtain ⟨rfl⟩ := hc
  unfold S
  unfold I at h
  refine fun fx F hL => evFor F.all hL ((h fx F).mono fun its need σ ⟨J, h1, h2, h3, h4⟩ => ⟨fun k σ => J k σ.loc σ.hp, h1, fun k σ x => h2 k σ.loc σ.hp x, fun k σ' hk hJ ps al => ?_, fun σ x => h4 _ _ x⟩) (folded_of ns' _)
  obtain ⟨bs, e, y⟩ := h3 k hk σ'.loc σ'.hp hJ
  have Fp := F.push al
  unfold Ss at y
  refine asgT_of al (F.qt rfl) e (fun b hb => isVar_of Fp hL (tgt_ok tk e b hb)) ((y _ Fp hL).mono fun fl σ₂ z => ?_)
  cases fl <;> exact z
theorem tgt1 {x : Str} {v : V} : tgtV (.Name x p) v = some [(x, v)] := rfl
theorem tgt2 {x y : Str} {a b : V} {k : Nat} : tgtV (.Tuple [.Name x p, .Name y q] k r) (.tup [a, b]) = some [(x, a), (y, b)] := rfl
theorem s_for1 {x : Str} {iter : Expr} {b : List Stmt} {K : KF} (hc : CxIs c pg sc ns lev true) (tk : tgtOk (varOk sc) (.Name x q) = true) (ns' : notSet iter = true)
    (h : I c X iter l hp fun its need l hp => ∃ J : Nat → Lo → List O → Prop, J 0 l hp ∧ (∀ k l hp, J k l hp → need ⟨l, hp⟩) ∧
      (∀ (k : Nat) (hk : k < its.length) l hp, J k l hp → Ss c X b (setN l x its[k]) hp fun fl l hp => match fl with | .next | .cont => J (k + 1) l hp | .brk => K .next l hp | .ret v => K (.ret v) l hp) ∧
      ∀ l hp, J its.length l hp → K .next l hp) : S c X (.For (.Name x q) iter b [] p) l hp K := by
  refine s_for hc tk ns' ?_
  unfold I at *
  exact fun fx F => (h fx F).mono fun its need σ ⟨J, h1, h2, h3, h4⟩ => ⟨J, h1, h2, fun k hk l hp x => ⟨_, tgt1, h3 k hk l hp x⟩, h4⟩
/-! exceptions -/
end
end Mine

set_option autoImplicit false
namespace Mine
open PySem PySem.W PySem.Calls PySem.Spec PyProof.Rows

/-! a loop over a zip of two lists -/
section
variable {fx : Fx} {X : XP} {σ : St} {W : Wd} {s : Shared}
end
section
variable {c : Cx} {X : XP} {l : Lo} {hp : List O} {p q r : Pos} {pg : Pg} {sc : Scope} {ns : List Int} {lev : Nat}
end
end Mine

set_option autoImplicit false
namespace Mine
open PySem PySem.W PySem.Calls PySem.Spec PyProof.Rows

theorem law_run {pg : Pg} {s₁ : Shared} {law : Str} {f fa a : Addr} {x : Str} {body : List Stmt} {scope : Scope} {vals : List Value} {ns : List Int} {R : Result → Shared → Prop}
    (T : Top pg.p pg.loose pg.mean pg.mg pg.mb s₁.heap) (KX : pg.K.In s₁.heap) (hgl : nsIn pg.K mainGlobals law = some (some (.ref f))) (hmg : pg.mg law = some (.ref fa)) (D : FnAt pg f [x] body scope) (nk : nmsOk scope = true)
    (hL : s₁.heap.IsList a vals.toArray) (hI : IntsAre vals ns) (hn : ns.length ≤ 63)
    (h : ∀ fx, FxAt ⟨pg, scope, ns, 600, true⟩ fx → fx.env.locals = fx.L → EvSs fx X0 body ⟨bindV [x] [.scr] (fun _ => none), []⟩ (fun fl _ => fl = .ret (.bool true)))
    (hR : ∀ s' m', Fr s₁.heap s₁.heap.objs.size s'.heap m' → s'.gens = s₁.gens → s'.os = s₁.os → R (.ok (.ret (.bool true))) s') :
    codeAny (model pg.prog pg.w) callerA (.call (.ref fa) ⟨[.ref a], []⟩) R s₁ := by
  have e := mg_of KX T.g hgl
  rw [hmg] at e
  cases e
  obtain ⟨name, qual, params, dV, kV, doc, pm, an, cdv, ct, oc, od, osl, ho, hcd, hbind⟩ := D.data
  have hb := hbind [.ref a] rfl
  refine codeAny_call_function (by decide) (KX _ _ ho) rfl D.hco D.hgen rfl (codeRec_of KX hcd) ((BindsTo.of_eq hb) _ _ _ _ ?_)
  refine wpAny_newFunctionEnv_cells D.hk (fun y hy => ?_) fun env' he s' x' => ?_
  · have hx' : y.1 ∈ [x] := (List.of_mem_zip (a := y.1) (b := y.2) hy).1
    rcases D.kinds y.1 hx' with q | q
    · exact .inl q
    · exact .inr ⟨q, cf_some _ _ _ (.inl q)⟩
  subst he
  refine ⟨T.nolimit.keeps x'.toInCall.keep, codeAny_func ?_⟩
  obtain ⟨h₁, tk, rfl, _⟩ := x'.done
  have hk₁ := x'.toInCall.keep
  obtain ⟨cells, N, Y⟩ := Cl.news (h₀ := s₁.heap) (Nat.le_refl _) fun n c hm => ⟨x'.cell n c (lookup_of_mem_nodup (cellsFrom_names scope.names 0 (s₁.heap.objs.size + 1) [] [] rfl ▸ D.cells) hm), x'.above n c hm⟩
  let L' := s₁.heap.objs.size
  have keysC := cellsAre_keys Y
  have cfa := cf_addr scope.names (L' + 1) (L' + 1) [] (Nat.le_refl _) (by simp) (fun p hp => by cases hp)
  have cellAt : ∀ y c, (cellsFrom (L' + 1) scope.names []).lookup y = some c → ∃ o, (c, o) ∈ cells ∧ o.data = .cell (bindC (envOfC qual scope L' f cdv).kindOf ([x].zip [.ref a]) (fun _ => none) y) := fun y c h => cellsAre_at Y (lookup_mem h)
  have F' : Fr s₁.heap L' h₁ (bindL (envOfC qual scope L' f cdv).kindOf ([x].zip [.ref a]) fun _ => none) := ⟨x'.toInCall.ns, hk₁, Nat.le_refl _⟩
  let fx : Fx := { pg := pg, A := callerA.deeper (envOfC qual scope L' f cdv), env := envOfC qual scope L' f cdv, fenv := envOfC qual scope L' f cdv, outer := [], A₀ := callerA, base := s₁.heap, h₀ := s₁.heap, L := L',
                   ex := [], s₀ := s₁, sc := a, ns := ns, lev := 600, mfix := none, qt := true }
  have all : FxAll fx := {
    ok := ⟨D.hk, fun _ => rfl⟩
    locs := .inl rfl
    cex := fun _ x c h p hp => by cases hp
    cinj := fun x y c h h' => snd_inj cfa.1 (lookup_mem h) (lookup_mem h')
    cdef := fun x h q => by
      have := cf_some (x := x) scope.names (L' + 1) [] (.inl h)
      rw [show (cellsFrom (L' + 1) scope.names []).lookup x = none from q] at this
      cases this
    scr := by
      obtain ⟨o, h1, h2, n, h3⟩ := hL
      exact ⟨vals, n, o, h1, h2, h3, hI, Nat.lt_of_le_of_lt hn (by decide)⟩
    egl := rfl
    ebu := rfl
    top := T
    part := KX
    below := below_caller _
    dicts := ktsDicts_nil
    frs := rfl
    ffr := rfl
    fkd := D.hk
    depth := by show 1 + claimMargin + 1 + 600 < recursionLimit; decide
    room := by show 4 + 3 + 8 * 600 + 100 < cLine; decide
    mfn := fun _ => rfl
    envf := fun _ => rfl }
  have R' : Rep fx ⟨bindV [x] [.scr] (fun _ => none), []⟩ ⟨[], [], a⟩ { s₁ with heap := h₁, toks := tk } := by
    refine ⟨rfl, _, _, cells, .refl, F', N, ⟨?_, ?_, ?_, List.nodup_nil, rfl, ?_, ?_, fun y v h => ?_, fun y c h => ?_, rfl, ?_, ?_⟩⟩
    · rw [keysC]; exact cfa.1
    · intro p hp; cases hp
    · intro p hp; cases hp
    · intro i o h; simp at h
    · intro t ht; cases ht
    · obtain ⟨u, h1, h2⟩ := bind_rel (W := ⟨[], [], a⟩) (xs := [x]) (vs := [.scr]) (us := [.ref a]) (kindOf := (envOfC qual scope L' f cdv).kindOf) (.cons .scr .nil) D.kinds (fun _ => none) (fun _ => none) (fun _ => none) (fun y v h => by cases h) y v h
      refine ⟨u, h1, ?_⟩
      rcases h2 with ⟨k1, k2⟩ | ⟨k1, k2⟩
      · exact .loc k1 rfl k2
      · have hs := cf_some (x := y) scope.names (L' + 1) [] (.inl k1)
        obtain ⟨c, hc⟩ := Option.isSome_iff_exists.mp hs
        obtain ⟨o, ho, hd⟩ := cellAt y c hc
        exact .cell (.inl k1) hc ho (by rw [hd, k2])
    · obtain ⟨o, ho, hd⟩ := cellAt y c h
      exact ⟨List.not_mem_nil, o, _, ho, hd⟩
    · intro _ q; cases q
    · intro p hp; cases hp
  refine wpAny_mono (h fx ⟨all, rfl, rfl, rfl, Nat.le_refl _, fun _ => rfl, nk⟩ rfl _ _ R') ?_ fun _ _ x => x.never.elim
  rintro fl s' ⟨W', σ', fl', le', ⟨er, g', m', news', G'', F₁, _, _⟩, r'', rfl⟩
  have F'' : Fr s₁.heap s₁.heap.objs.size s'.heap m' := ⟨F₁.ns, fun b o e => F₁.keep b o (G''.other b o e (by simp [fx])), Nat.le_refl _⟩
  cases r'' with
  | ret r =>
    cases r
    exact hR s' m' F'' (by rw [er]) (by rw [er])

end Mine

set_option autoImplicit false
namespace Mine
open PySem PySem.W PySem.Calls PySem.Spec PyProof.Rows
open PySem.Builtin PySem.Builtin.ObjectAttr PySem.Builtin.Getset_descriptor

/-! isinstance of an exception of an own class -/
section
variable {prog : Program} {w : World} {A : Around} {E : Value → Shared → Prop} {s : Shared} {K : Frag} {x D : Addr}
end

end Mine

set_option autoImplicit false
namespace Mine
open PySem PySem.W PySem.Calls PySem.Spec PyProof.Rows

/-! a list times a number; the least of a list -/
section
variable {fx : Fx} {X : XP} {σ : St} {W : Wd} {s : Shared}
end
section
variable {c : Cx} {X : XP} {l : Lo} {hp : List O} {K : KV}
end
end Mine

set_option autoImplicit false
namespace Mine
open PySem PySem.W PySem.Calls PySem.Spec PyProof.Rows

theorem fn1 {α : Type} {P : List α → Prop} (h : ∀ a, P [a]) : ∀ us : List α, us.length = 1 → P us
  | [a], _ => h a
theorem fn2 {α : Type} {P : List α → Prop} (h : ∀ a b, P [a, b]) : ∀ us : List α, us.length = 2 → P us
  | [a, b], _ => h a b
theorem fn3 {α : Type} {P : List α → Prop} (h : ∀ a b c, P [a, b, c]) : ∀ us : List α, us.length = 3 → P us
  | [a, b, c], _ => h a b c
theorem fn4 {α : Type} {P : List α → Prop} (h : ∀ a b c d, P [a, b, c, d]) : ∀ us : List α, us.length = 4 → P us
  | [a, b, c, d], _ => h a b c d
theorem fnAt_of {pg : Pg} {f : Addr} {xs : List Str} {name qual : Str} {params : Arguments} {body : List Stmt} {scope : Scope} {dV kV doc pm an cdv ct oc od osl} (h1 : pg.K.lookup f = some ⟨oc, od, .func (fnOf name qual params body scope dV kV doc pm an cdv ct), osl⟩) (h2 : codeIn pg.K cdv qual = true)
    (h3 : ∀ us : List Value, us.length = xs.length → bindArgs (fnOf name qual params body scope dV kV doc pm an cdv ct) ⟨us, []⟩ = pure (xs.zip us)) (h4 : ∀ x ∈ xs, scope.names.lookup x = some .local ∨ scope.names.lookup x = some .cell)
    (h5 : ((cellsFrom 0 scope.names []).map (·.1)).Nodup) (h6 : scope.isCoroutine = false) (h7 : scope.isGenerator = false) (h8 : scope.kind = .function) : FnAt pg f xs body scope :=
  ⟨⟨name, qual, params, dV, kV, doc, pm, an, cdv, ct, oc, od, osl, h1, h2, h3⟩, h4, h5, h6, h7, h8⟩
/-- a def, by its rules -/
theorem fn_run {pg : Pg} {f : Addr} {xs : List Str} {body : List Stmt} {scope : Scope} (D : FnAt pg f xs body scope) {lev : Nat} {qt : Bool} {ns : List Int} {vs : List V} {hp : List O} {X : Value → List O → Prop} {Q : V → List O → Prop} (hl : vs.length = xs.length) (hok : nmsOk scope = true)
    (h : ∀ c, CxIs c pg scope ns lev qt → Ss c (fun d σ => X d σ.hp) body (bindV xs vs fun _ => none) hp (fun fl _ hp' => Q (retV fl) hp')) : CallOK pg (lev + 1) qt ns f vs hp X Q := by
  have h := h _ ⟨rfl⟩
  unfold Ss at h
  exact callOK_of D hl fun fx F hpg hns hlev hqt hsc hL => h fx ⟨F, hpg, hsc, hns, Nat.le_of_eq hlev.symm, hqt, hok⟩ hL


/-- the law, by its rules -/
theorem law_go {pg : Pg} {s₁ : Shared} {law : Str} {f fa a : Addr} {x : Str} {body : List Stmt} {scope : Scope} {vals : List Value} {ns : List Int} {R : Result → Shared → Prop}
    (T : Top pg.p pg.loose pg.mean pg.mg pg.mb s₁.heap) (KX : pg.K.In s₁.heap) (hmg : pg.mg law = some (.ref fa)) (hL : s₁.heap.IsList a vals.toArray) (hI : IntsAre vals ns) (hn : ns.length ≤ 63) (hgl : nsIn pg.K mainGlobals law = some (some (.ref f))) (D : FnAt pg f [x] body scope) (hok : nmsOk scope = true)
    (hR : ∀ s' m', Fr s₁.heap s₁.heap.objs.size s'.heap m' → s'.gens = s₁.gens → s'.os = s₁.os → R (.ok (.ret (.bool true))) s')
    (h : ∀ c, CxIs c pg scope ns 600 true → Ss c X0 body (bindV [x] [.scr] fun _ => none) [] (fun fl _ _ => fl = .ret (.bool true))) :
    codeAny (model pg.prog pg.w) callerA (.call (.ref fa) ⟨[.ref a], []⟩) R s₁ := by
  have h := h _ ⟨rfl⟩
  unfold Ss at h
  exact law_run T KX hgl hmg D hok hL hI hn (fun fx F hL => h fx F hL) hR


theorem lay_ints : ∀ ns : List Int, PyData.canLayAll0 (ns.map .int) = true ∧ PyData.depthAll (ns.map .int) ≤ 1
  | [] => ⟨by simp [PyData.canLayAll0], by simp [PyData.depthAll]⟩
  | n :: r => by
    have := lay_ints r
    simp [PyData.canLayAll0, PyData.depthAll, PyData.canLay0, PyData.depth, this.1] at *
    omega
theorem shaped_ints (ns : List Int) : PySem.SeqAt.shaped (.list (ns.map .int)) = true := by
  have := lay_ints ns
  simp [PySem.SeqAt.shaped, PyData.canLay0, PyData.depth, this.1]
  omega
section
variable {c : Cx} {X : XP} {l : Lo} {hp : List O} {K : KV}
theorem cmp_ints_ne {i j : Nat} {xs ys : List Int} (h1 : hp[i]? = some (.list (xs.map .int))) (h2 : hp[j]? = some (.list (ys.map .int))) (h : K (.bool (!decide (xs = ys))) l hp) : Cmp c X .NotEq (.ref i) (.ref j) l hp K :=
  cmp_dne (.list h1 (dats_ints hp xs)) (.list h2 (dats_ints hp ys)) (shaped_ints xs) (shaped_ints ys) (by rw [show PyData.eqv (.list (xs.map .int)) (.list (ys.map .int)) = decide (xs = ys) by rw [PyData.eqv]; exact ked_eqvAll xs ys]; exact h)
end
end Mine

set_option autoImplicit false
namespace Mine
open PySem PySem.W PySem.Calls PySem.Spec PyProof.Rows

/-- the number at a place -/
def g (xs : List Int) (i : Int) : Int := xs.getD i.toNat 0
theorem g_get {xs : List Int} {k : Int} (h0 : 0 ≤ k) (h1 : k < xs.length) : (xs.map V.int)[k.toNat]? = some (.int (g xs k)) := by
  unfold g
  have : k.toNat < xs.length := by omega
  simp [this]
theorem g_nat {xs : List Int} {k : Nat} (h : k < xs.length) : xs[k] = g xs k := by
  unfold g
  simp [h]

section
variable {c : Cx} {X : XP} {l : Lo} {hp : List O} {K : KV} {p q : Pos} {pg : Pg} {sc : Scope} {ns : List Int} {lev : Nat} {qt : Bool}

theorem sb_int {i : Nat} {xs : List Int} {k : Int} (e : hp[i]? = some (.list (xs.map .int))) (s : Side (0 ≤ k ∧ k < xs.length ∧ xs.length < 2 ^ 62)) (h : K (.int (g xs k)) l hp) : Sub c X (.ref i) (.int k) l hp K :=
  sb_ref e ⟨by have := s.h; omega⟩ (g_get s.h.1 s.h.2.1) h
theorem cb_len_int {i : Nat} {xs : List Int} (e : hp[i]? = some (.list (xs.map .int))) (s : Side (xs.length < 2 ^ 62)) (h : K (.int xs.length) l hp) : CB c X "len" [.ref i] l hp K :=
  cb_len_ref e ⟨by have := s.h; rw [List.length_map]; omega⟩ (by rw [List.length_map]; exact h)
theorem ints_of {R : Nat → Int → Prop} : ∀ {vs : List V}, (∀ (j : Nat) (hj : j < vs.length), ∃ x, vs[j] = .int x ∧ R j x) → ∃ ys : List Int, vs = ys.map .int ∧ ∀ (j : Nat) (hj : j < ys.length), R j ys[j] := by
  intro vs
  induction vs generalizing R with
  | nil => intro _; exact ⟨[], rfl, fun j hj => by simp at hj⟩
  | cons v vs ih =>
    intro h
    obtain ⟨x, e, r⟩ := h 0 (by simp)
    obtain ⟨ys, e', r'⟩ := ih (R := fun j => R (j + 1)) fun j hj => h (j + 1) (Nat.succ_lt_succ hj)
    simp at e
    subst e; subst e'
    refine ⟨x :: ys, rfl, fun j hj => ?_⟩
    cases j with
    | zero => exact r
    | succ j => exact r' j (Nat.lt_of_succ_lt_succ hj)
/-- the same, of numbers -/
theorem comp_ints (hc : CxIs c pg sc ns lev qt) {elt t : Expr} {csc : Scope} {its : List V} {need : St → Prop} {K : List O → Prop} (ck : compCk sc csc t = true) (R : Nat → Int → Prop) (hl : its.length ≤ sizeLine) (hneed : ∀ vs : List V, need ⟨l, hp ++ [.list vs]⟩)
    (turn : ∀ (k : Nat) (hk : k < its.length) (vs : List V), vs.length = k → ∃ bs, tgtV t its[k] = some bs ∧ ∀ c', CxIs c' pg (relab csc) ns lev qt → E c' X0 elt (setAll (compLoc csc l) bs) (hp ++ [.list vs]) (fun v _ hp' => hp' = hp ++ [.list vs] ∧ ∃ x, v = .int x ∧ R k x))
    (fin : ∀ ys : List Int, ys.length = its.length → (∀ (j : Nat) (hj : j < ys.length), R j ys[j]) → K (hp ++ [.list (ys.map .int)])) : Comp c elt t [] csc its need l hp K :=
  comp_gen hc ck (fun k v => ∃ x, v = .int x ∧ R k x) hl hneed (fun k hk vs hv _ => turn k hk vs hv) fun vs hv hR => by
    obtain ⟨ys, rfl, r⟩ := ints_of hR
    exact fin ys (by simpa using hv) r
theorem setN_same {l : Lo} {x : Str} {v : V} : setN l x v x = some v := by unfold setN; rw [if_pos rfl]
theorem setN_ne {l : Lo} {a b : String} {w : V} (h : (a == b) = false) : setN l (Str.ofString b) w (Str.ofString a) = l (Str.ofString a) := by
  unfold setN
  rw [if_neg (fun q => by rw [ofString_inj] at q; subst q; simp at h)]
theorem bind_c {xs : List Str} {vs : List V} {x : Str} {v : V} {l : Lo} {y : Str} : bindV (x :: xs) (v :: vs) l y = bindV xs vs (setN l x v) y := rfl
theorem bind_n {l : Lo} {y : Str} : bindV [] [] l y = l y := rfl
theorem all_c {r : List (Str × V)} {x : Str} {v : V} {l : Lo} {y : Str} : setAll l ((x, v) :: r) y = setAll (setN l x v) r y := rfl
theorem all_n {l : Lo} {y : Str} : setAll l [] y = l y := rfl
theorem compLoc_eq {csc : Scope} {l : Lo} {x : Str} (h : csc.names.lookup x = some .free) : compLoc csc l x = l x := by
  unfold compLoc
  rw [if_pos h]
theorem app_get {hp t : List O} {i : Nat} {o : O} (h : hp[i]? = some o) : (hp ++ t)[i]? = some o := prefix_get (List.prefix_append _ _) h
theorem app_new {hp : List O} {o : O} : (hp ++ [o])[hp.length]? = some o := by simp
theorem get_lt {hp : List O} {i : Nat} {o : O} (h : hp[i]? = some o) : i < hp.length := by
  rcases Nat.lt_or_ge i hp.length with q | q
  · exact q
  · rw [List.getElem?_eq_none q] at h; cases h
end
end Mine

set_option autoImplicit false
namespace Mine
/-- b lies below the line from a to c -/
abbrev Bl (f : Int → Int) (a b c : Int) : Prop := (f b - f a) * (c - a) < (f c - f a) * (b - a)

/-! the ridge -/
/-! what hides a hill -/
theorem nbl_trans {f : Int → Int} {a k b p : Int} (h0 : a < k) (h1 : a < b) (h2 : a < p) (x : ¬ Bl f a b k) (y : Bl f a b p) : Bl f a k p := by
  unfold Bl at *
  refine Int.lt_of_mul_lt_mul_right (a := b - a) ?_ (by omega)
  have x' : (f k - f a) * (b - a) ≤ (f b - f a) * (k - a) := by omega
  have e1 := Int.mul_le_mul_of_nonneg_right x' (show 0 ≤ p - a by omega)
  have e2 := Int.mul_lt_mul_of_pos_right y (show 0 < k - a by omega)
  grind
theorem nbl_nbl {f : Int → Int} {a k b p : Int} (h0 : a < k) (h1 : a < b) (h2 : a < p) (x : ¬ Bl f a b k) (y : Bl f a b p) : ¬ Bl f a p k := by
  have z := nbl_trans h0 h1 h2 x y
  unfold Bl at *
  intro q
  grind
/-! what is seen later, earlier -/
def Sees (f : Int → Int) (a b : Int) : Prop := ∀ k, a < k → k < b → Bl f a k b
/-- what is seen from a among the next k places, and the last of it -/
def lat (f : Int → Int) (a : Int) : Nat → List Int
  | 0 => []
  | k + 1 => match (lat f a k).getLast? with
    | none => lat f a k ++ [a + 1 + k]
    | some q => if Bl f a q (a + 1 + k) then lat f a k ++ [a + 1 + k] else lat f a k
theorem lat_ok (f : Int → Int) (a : Int) : ∀ k : Nat, ((lat f a k = [] ∧ k = 0) ∨ ∃ q, (lat f a k).getLast? = some q ∧ a < q ∧ q < a + 1 + k ∧ ∀ j, a < j → j < a + 1 + k → ¬ Bl f a q j)
  | 0 => .inl ⟨rfl, rfl⟩
  | k + 1 => by
    refine .inr ?_
    unfold lat
    rcases lat_ok f a k with ⟨e, rfl⟩ | ⟨q, e, h1, h2, h3⟩
    · rw [e]
      refine ⟨a + 1 + (0 : Nat), by simp, by omega, by omega, fun j j1 j2 => ?_⟩
      have : j = a + 1 + (0 : Nat) := by omega
      subst this
      unfold Bl
      omega
    · rw [e]
      dsimp only
      by_cases z : Bl f a q (a + 1 + k)
      · rw [if_pos z]
        refine ⟨a + 1 + k, by simp, by omega, by omega, fun j j1 j2 => ?_⟩
        rcases Int.lt_or_le j (a + 1 + k) with y | y
        · exact nbl_nbl j1 h1 (by omega) (h3 j j1 y) z
        · have : j = a + 1 + k := by omega
          subst this
          unfold Bl
          omega
      · rw [if_neg z]
        refine ⟨q, e, h1, by omega, fun j j1 j2 => ?_⟩
        rcases Int.lt_or_le j (a + 1 + k) with y | y
        · exact h3 j j1 y
        · have : j = a + 1 + k := by omega
          subst this
          exact z
open Classical in
/-- the places that are seen, by the law -/
noncomputable def duel (f : Int → Int) (a : Int) (k : Nat) : List Int := ((List.range k).map fun (j : Nat) => a + 1 + (j : Int)).filter fun b => decide (Sees f a b)
theorem duel_succ (f : Int → Int) (a : Int) (k : Nat) : duel f a (k + 1) = duel f a k ++ (open Classical in if Sees f a (a + 1 + k) then [a + 1 + (k : Int)] else []) := by
  unfold duel
  rw [List.range_succ, List.map_append, List.filter_append]
  congr 1
  by_cases h : Sees f a (a + 1 + k)
  · simp [h]
  · simp [h]
theorem lat_eq (f : Int → Int) (a : Int) : ∀ k : Nat, lat f a k = duel f a k
  | 0 => rfl
  | k + 1 => by
    rw [duel_succ, ← lat_eq f a k]
    have z := lat_ok f a k
    conv => lhs; unfold lat
    rcases z with ⟨e, rfl⟩ | ⟨q, e, h1, h2, h3⟩
    · rw [e]
      have : Sees f a (a + 1 + (0 : Nat)) := fun k k1 k2 => by omega
      rw [if_pos this]
      simp
    · rw [e]
      dsimp only
      by_cases z : Bl f a q (a + 1 + k)
      · have : Sees f a (a + 1 + k) := fun j j1 j2 => nbl_trans j1 h1 (by omega) (h3 j j1 (by omega)) z
        rw [if_pos z, if_pos this]
      · have : ¬ Sees f a (a + 1 + k) := fun s => z (s q h1 (by omega))
        rw [if_neg z, if_neg this]
        simp

open Classical in
open Classical in
open Classical in
open Classical in
/-! the tower -/
end Mine

set_option autoImplicit false
namespace Mine
open Classical

/-! the fewest hops -/
section
variable {f : Int → Int} {n : Nat} {a L : Int} {row fresh so : List Int} {k : Nat} {d : Int → Int}
end
end Mine

set_option autoImplicit false
namespace Mine
open PySem PySem.W

def Keep (hp hp' : List O) : Prop := ∀ (q : Nat) (o : O), hp[q]? = some o → hp'[q]? = some o
theorem Keep.refl {hp : List O} : Keep hp hp := fun _ _ h => h
theorem Keep.app {hp hp' t : List O} (h : Keep hp hp') : Keep hp (hp' ++ t) := fun q o e => app_get (h q o e)
theorem set_get {hp : List O} {i j : Nat} {o o' : O} (h : hp[j]? = some o) (ne : i ≠ j) : (hp.set i o')[j]? = some o := by rw [List.getElem?_set_ne ne]; exact h
theorem set_at {hp : List O} {i : Nat} {o o' : O} (h : hp[i]? = some o) : (hp.set i o')[i]? = some o' := by
  rw [List.getElem?_set_self (get_lt h)]
theorem Keep.set {hp hp' : List O} {i : Nat} {o : O} (h : Keep hp hp') (hi : hp.length ≤ i) : Keep hp (hp'.set i o) := fun q o' e => set_get (h q o' e) (by have := get_lt e; omega)
end Mine

set_option autoImplicit false
namespace Mine
open Classical

/-! the way of the fewest hops -/
/-! the rounds of the other reckoning -/
section
variable {f d e : Int → Int} {n : Nat} {b m h : Int}
end
/-! on a line -/
end Mine

set_option autoImplicit false
namespace Mine
open PySem PySem.W PySem.Calls PySem.Spec PyProof.Rows
section
variable {c : Cx} {X : XP} {l : Lo} {hp : List O} {pg : Pg} {sc : Scope} {ns : List Int} {lev : Nat} {qt : Bool}
end
end Mine

set_option autoImplicit false
namespace Mine
open Classical

/-! the pairs that see each other -/
def lx (p q : Int × Int) : Prop := p.1 < q.1 ∨ (p.1 = q.1 ∧ p.2 < q.2)
theorem lx_irrefl (p : Int × Int) : ¬ lx p p := by unfold lx; omega
theorem lx_trans {p q r : Int × Int} (h : lx p q) (h' : lx q r) : lx p r := by unfold lx at *; omega
theorem lx_ext : ∀ {xs ys : List (Int × Int)}, xs.Pairwise lx → ys.Pairwise lx → (∀ p, p ∈ xs ↔ p ∈ ys) → xs = ys
  | [], [], _, _, _ => rfl
  | [], y :: ys, _, _, h => by have := (h y).mpr (.head _); cases this
  | x :: xs, [], _, _, h => by have := (h x).mp (.head _); cases this
  | x :: xs, y :: ys, hx, hy, h => by
    rw [List.pairwise_cons] at hx hy
    have e : x = y := by
      rcases List.mem_cons.mp ((h x).mp (.head _)) with e | m
      · exact e
      rcases List.mem_cons.mp ((h y).mpr (.head _)) with e | m'
      · exact e.symm
      exact absurd (lx_trans (hx.1 _ m') (hy.1 _ m)) (lx_irrefl _)
    subst e
    rw [lx_ext hx.2 hy.2 fun p => ?_]
    constructor
    · intro m
      rcases List.mem_cons.mp ((h p).mp (.tail _ m)) with e | m'
      · subst e; exact absurd (hx.1 _ m) (lx_irrefl _)
      · exact m'
    · intro m
      rcases List.mem_cons.mp ((h p).mpr (.tail _ m)) with e | m'
      · subst e; exact absurd (hy.1 _ m) (lx_irrefl _)
      · exact m'
theorem mem_duel {f : Int → Int} {a b : Int} {k : Nat} : b ∈ duel f a k ↔ a < b ∧ b < a + 1 + k ∧ Sees f a b := by
  unfold duel
  rw [List.mem_filter, List.mem_map]
  constructor
  · rintro ⟨⟨j, hj, rfl⟩, h⟩
    rw [List.mem_range] at hj
    exact ⟨by omega, by omega, by simpa using h⟩
  · rintro ⟨h1, h2, h3⟩
    exact ⟨⟨(b - a - 1).toNat, by rw [List.mem_range]; omega, by omega⟩, by simpa using h3⟩
theorem duel_sorted (f : Int → Int) (a : Int) : ∀ k : Nat, (duel f a k).Pairwise (· < ·)
  | 0 => by simp [duel]
  | k + 1 => by
    rw [duel_succ, List.pairwise_append]
    refine ⟨duel_sorted f a k, by split <;> simp, fun x hx y hy => ?_⟩
    have := mem_duel.mp hx
    split at hy
    · simp at hy; omega
    · simp at hy
/-- the pairs of the first k places -/
def sgN (f : Int → Int) (n : Nat) : Nat → List (Int × Int)
  | 0 => []
  | k + 1 => sgN f n k ++ (lat f k (n - 1 - k)).map fun b => ((k : Int), b)
def sg (f : Int → Int) (n : Nat) : List (Int × Int) := sgN f n n
theorem mem_sgN {f : Int → Int} {n : Nat} {p : Int × Int} : ∀ {k : Nat}, k ≤ n → (p ∈ sgN f n k ↔ (0 ≤ p.1 ∧ p.1 < k) ∧ (p.1 < p.2 ∧ p.2 < n) ∧ Sees f p.1 p.2)
  | 0, _ => by simp [sgN]; omega
  | k + 1, hk => by
    obtain ⟨x, y⟩ := p
    rw [sgN, List.mem_append, mem_sgN (by omega), List.mem_map, lat_eq]
    dsimp only
    constructor
    · rintro (h | ⟨b, hb, e⟩)
      · exact ⟨⟨by omega, by omega⟩, h.2⟩
      · cases e
        have := mem_duel.mp hb
        exact ⟨⟨by omega, by omega⟩, ⟨this.1, by omega⟩, this.2.2⟩
    · rintro ⟨⟨h1, h2⟩, ⟨h3, h4⟩, h5⟩
      rcases Int.lt_or_le x k with q | q
      · exact .inl ⟨⟨h1, q⟩, ⟨h3, h4⟩, h5⟩
      · have : x = k := by omega
        subst this
        exact .inr ⟨y, mem_duel.mpr ⟨h3, by omega, h5⟩, rfl⟩
theorem sgN_sorted (f : Int → Int) (n : Nat) : ∀ k : Nat, k ≤ n → (sgN f n k).Pairwise lx
  | 0, _ => by simp [sgN]
  | k + 1, hk => by
    rw [sgN, List.pairwise_append]
    refine ⟨sgN_sorted f n k (by omega), ?_, fun x hx y hy => ?_⟩
    · rw [List.pairwise_map, lat_eq]
      exact (duel_sorted f k _).imp fun h => .inr ⟨rfl, h⟩
    · have := (mem_sgN (by omega)).mp hx
      rw [List.mem_map] at hy
      obtain ⟨b, _, rfl⟩ := hy
      exact .inl (by show x.1 < (k : Int); omega)
theorem mem_sg {f : Int → Int} {n : Nat} {p : Int × Int} : p ∈ sg f n ↔ (0 ≤ p.1 ∧ p.1 < p.2 ∧ p.2 < n) ∧ Sees f p.1 p.2 := by
  unfold sg
  rw [mem_sgN (Nat.le_refl _)]
  constructor
  · rintro ⟨⟨h1, h2⟩, ⟨h3, h4⟩, h5⟩; exact ⟨⟨h1, h3, h4⟩, h5⟩
  · rintro ⟨⟨h1, h3, h4⟩, h5⟩; exact ⟨⟨h1, by omega⟩, ⟨h3, h4⟩, h5⟩
theorem sg_sorted (f : Int → Int) (n : Nat) : (sg f n).Pairwise lx := sgN_sorted f n n (Nat.le_refl _)
theorem sg_congr {f f' : Int → Int} {n : Nat} (h : ∀ a b : Int, 0 ≤ a → a < b → b < n → (Sees f a b ↔ Sees f' a b)) : sg f n = sg f' n :=
  lx_ext (sg_sorted f n) (sg_sorted f' n) fun p => by
    rw [mem_sg, mem_sg]
    constructor
    · rintro ⟨h1, h2⟩; exact ⟨h1, (h _ _ h1.1 h1.2.1 h1.2.2).mp h2⟩
    · rintro ⟨h1, h2⟩; exact ⟨h1, (h _ _ h1.1 h1.2.1 h1.2.2).mpr h2⟩
theorem sgN_len (f : Int → Int) (n : Nat) : ∀ k : Nat, k ≤ n → (sgN f n k).length ≤ k * n
  | 0, _ => by simp [sgN]
  | k + 1, hk => by
    rw [sgN, List.length_append, List.length_map, lat_eq]
    have := sgN_len f n k (by omega)
    have h2 : (duel f k (n - 1 - k)).length ≤ n - 1 - k := by
      unfold duel
      exact Nat.le_trans (List.length_filter_le _ _) (by simp)
    rw [Nat.succ_mul]
    omega
theorem sg_nodup (f : Int → Int) (n : Nat) : (sg f n).Nodup := (sg_sorted f n).imp fun h e => by subst e; exact lx_irrefl _ h
/-! a line, a curve -/
end Mine

set_option autoImplicit false
namespace Mine
open Classical

/-! a land tilted, stretched, turned -/
theorem sees_of {f f' : Int → Int} {a b : Int} (h : ∀ k, a < k → k < b → (Bl f a k b ↔ Bl f' a k b)) : Sees f a b ↔ Sees f' a b := by
  unfold Sees
  constructor
  · intro x k h1 h2; exact (h k h1 h2).mp (x k h1 h2)
  · intro x k h1 h2; exact (h k h1 h2).mpr (x k h1 h2)
theorem sg_tilt {f f' : Int → Int} {n : Nat} {t c : Int} (hf : ∀ x : Int, 0 ≤ x → x < n → f' x = f x + t * x + c) : sg f' n = sg f n := by
  refine sg_congr fun a b h1 h2 h3 => sees_of fun k k1 k2 => ?_
  unfold Bl
  rw [hf a (by omega) (by omega), hf b (by omega) (by omega), hf k (by omega) (by omega)]
  have e1 : (f k + t * k + c - (f a + t * a + c)) * (b - a) = (f k - f a) * (b - a) + t * ((k - a) * (b - a)) := by
    rw [show f k + t * k + c - (f a + t * a + c) = (f k - f a) + t * (k - a) by rw [Int.mul_sub]; omega, Int.add_mul, Int.mul_assoc]
  have e2 : (f b + t * b + c - (f a + t * a + c)) * (k - a) = (f b - f a) * (k - a) + t * ((k - a) * (b - a)) := by
    rw [show f b + t * b + c - (f a + t * a + c) = (f b - f a) + t * (b - a) by rw [Int.mul_sub]; omega, Int.add_mul, Int.mul_assoc, Int.mul_comm (b - a)]
  rw [e1, e2]
  omega
theorem sg_times {f f' : Int → Int} {n : Nat} {t : Int} (ht : 0 < t) (hf : ∀ x : Int, 0 ≤ x → x < n → f' x = f x * t) : sg f' n = sg f n := by
  refine sg_congr fun a b h1 h2 h3 => sees_of fun k k1 k2 => ?_
  unfold Bl
  rw [hf a (by omega) (by omega), hf b (by omega) (by omega), hf k (by omega) (by omega), ← Int.sub_mul, ← Int.sub_mul, Int.mul_right_comm, Int.mul_right_comm (f b - f a)]
  constructor
  · intro h; exact Int.lt_of_mul_lt_mul_right h (by omega)
  · intro h; exact Int.mul_lt_mul_of_pos_right h ht
theorem bl_turn {f f' : Int → Int} {a k b d : Int} (ea : f' (d - a) = f a) (ek : f' (d - k) = f k) (eb : f' (d - b) = f b) : Bl f' (d - b) (d - k) (d - a) ↔ Bl f a k b := by
  unfold Bl
  rw [ea, ek, eb, show d - a - (d - b) = b - a by omega, show d - k - (d - b) = b - k by omega]
  have e1 : (f k - f b) * (b - a) = (f k - f a) * (b - a) - (f b - f a) * (b - a) := by rw [← Int.sub_mul]; congr 1; omega
  have e2 : (f a - f b) * (b - k) = (f b - f a) * (k - a) - (f b - f a) * (b - a) := by
    rw [← Int.mul_sub, show k - a - (b - a) = -(b - k) by omega, Int.mul_neg, ← Int.neg_mul]; congr 1; omega
  rw [e1, e2]
  omega
theorem sees_turn {f f' : Int → Int} {n : Nat} (hf : ∀ x : Int, 0 ≤ x → x < n → f' ((n : Int) - 1 - x) = f x) {a b : Int} (a0 : 0 ≤ a) (ab : a < b) (bn : b < n) : Sees f' ((n : Int) - 1 - b) ((n : Int) - 1 - a) ↔ Sees f a b := by
  unfold Sees
  constructor
  · intro x k h1 h2
    exact (bl_turn (hf a a0 (by omega)) (hf k (by omega) (by omega)) (hf b (by omega) bn)).mp (x ((n : Int) - 1 - k) (by omega) (by omega))
  · intro x k h1 h2
    have := (bl_turn (d := (n : Int) - 1) (k := (n : Int) - 1 - k) (hf a a0 (by omega)) (hf _ (by omega) (by omega)) (hf b (by omega) bn)).mpr (x _ (by omega) (by omega))
    rw [show (n : Int) - 1 - ((n : Int) - 1 - k) = k by omega] at this
    exact this
/-- the pairs, seen from the other side -/
def turnP (n : Nat) (p : Int × Int) : Int × Int := ((n : Int) - 1 - p.2, (n : Int) - 1 - p.1)
theorem sg_turn_mem {f f' : Int → Int} {n : Nat} (hf : ∀ x : Int, 0 ≤ x → x < n → f' ((n : Int) - 1 - x) = f x) (p : Int × Int) : p ∈ sg f' n ↔ p ∈ (sg f n).map (turnP n) := by
  rw [List.mem_map]
  constructor
  · intro h
    obtain ⟨⟨h1, h2, h3⟩, h4⟩ := mem_sg.mp h
    refine ⟨turnP n p, mem_sg.mpr ⟨⟨by unfold turnP; dsimp only; omega, by unfold turnP; dsimp only; omega, by unfold turnP; dsimp only; omega⟩, ?_⟩, ?_⟩
    · refine (sees_turn hf (by unfold turnP; dsimp only; omega) (by unfold turnP; dsimp only; omega) (by unfold turnP; dsimp only; omega)).mp ?_
      unfold turnP
      dsimp only
      rw [show (n : Int) - 1 - ((n : Int) - 1 - p.1) = p.1 by omega, show (n : Int) - 1 - ((n : Int) - 1 - p.2) = p.2 by omega]
      exact h4
    · unfold turnP
      dsimp only
      rw [show (n : Int) - 1 - ((n : Int) - 1 - p.1) = p.1 by omega, show (n : Int) - 1 - ((n : Int) - 1 - p.2) = p.2 by omega]
  · rintro ⟨q, hq, rfl⟩
    obtain ⟨⟨h1, h2, h3⟩, h4⟩ := mem_sg.mp hq
    exact mem_sg.mpr ⟨⟨by unfold turnP; dsimp only; omega, by unfold turnP; dsimp only; omega, by unfold turnP; dsimp only; omega⟩, (sees_turn hf h1 h2 h3).mpr h4⟩
/-- what is sorted and holds the same pairs is the same -/
theorem sorted_turn {f f' : Int → Int} {n : Nat} (hf : ∀ x : Int, 0 ≤ x → x < n → f' ((n : Int) - 1 - x) = f x) {ys : List (Int × Int)} (hp : ys.Perm ((sg f n).map (turnP n))) (hs : ys.Pairwise fun p q => lx p q ∨ p = q) : sg f' n = ys := by
  have nd : ys.Nodup := hp.nodup_iff.mpr (by
    unfold List.Nodup
    rw [List.pairwise_map]
    refine (sg_nodup f n).imp fun {p q} ne e => ne ?_
    unfold turnP at e
    have e1 := congrArg Prod.fst e
    have e2 := congrArg Prod.snd e
    dsimp only at e1 e2
    exact Prod.ext (by omega) (by omega))
  refine lx_ext (sg_sorted f' n) ?_ fun p => by rw [sg_turn_mem hf, hp.mem_iff]
  have := List.pairwise_and_iff.mpr ⟨hs, nd⟩
  exact this.imp fun h => h.1.resolve_right h.2
end Mine

set_option autoImplicit false
namespace Mine
open Classical

/-! the fewest hops are there -/
end Mine

set_option autoImplicit false
namespace Mine
open PySem PySem.W PySem.Calls PySem.Spec PyProof.Rows

/-! a chain of three comparisons; pairs in order -/
section
variable {fx : Fx} {X : XP} {σ : St} {W : Wd} {s : Shared}
theorem pair_at (R : Rep fx σ W s) {a b : Int} {u : Value} (r : VR W (.tup [.int a, .int b]) u) : ∃ p t t', u = .ref p ∧ s.heap.get? p = some (tupObj [.int a t, .int b t']) := by
  obtain ⟨p, xs, rfl, h1, h2⟩ := R.tup_at r
  cases h2 with
  | cons x1 h2 =>
    cases h2 with
    | cons x2 h2 =>
      cases h2
      cases x1; cases x2
      exact ⟨p, _, _, rfl, h1⟩
end
section
variable {c : Cx} {X : XP} {l : Lo} {hp : List O} {K : KV} {p : Pos}
end
end Mine

set_option autoImplicit false
namespace Mine
open PySem PySem.W PySem.Calls PySem.Spec PyProof.Rows

/-! dicts whose keys are tuples of numbers -/
section
variable {fx : Fx} {X : XP} {σ : St} {W : Wd} {s : Shared}
end
section
variable {c : Cx} {X : XP} {l : Lo} {hp : List O} {K : KV} {p : Pos}
end
end Mine

set_option autoImplicit false
namespace Mine
open PySem PySem.W PySem.Calls PySem.Spec PyProof.Rows

/-! lists of pairs of numbers -/
def pV (p : Int × Int) : V := .tup [.int p.1, .int p.2]
def pD (p : Int × Int) : PyData := .tuple [.int p.1, .int p.2]
theorem dats_pairs (hp : List O) : ∀ ps : List (Int × Int), Dats hp (ps.map pV) (ps.map pD)
  | [] => .nil
  | _ :: r => .cons (.tup (.cons (.int _) (.cons (.int _) .nil))) (dats_pairs hp r)
theorem lay_pairs : ∀ ps : List (Int × Int), PyData.canLayAll0 (ps.map pD) = true ∧ PyData.depthAll (ps.map pD) ≤ 2
  | [] => ⟨by simp [PyData.canLayAll0], by simp [PyData.depthAll]⟩
  | n :: r => by
    have := lay_pairs r
    simp [pD, PyData.canLayAll0, PyData.depthAll, PyData.canLay0, PyData.depth, this.1] at *
    omega
theorem shaped_pairs (ps : List (Int × Int)) : PySem.SeqAt.shaped (.list (ps.map pD)) = true := by
  have := lay_pairs ps
  simp [PySem.SeqAt.shaped, PyData.canLay0, PyData.depth, this.1]
  omega
theorem eqv_pair (p q : Int × Int) : PyData.eqv (pD p) (pD q) = decide (p = q) := by
  obtain ⟨a, b⟩ := p
  obtain ⟨c, d⟩ := q
  unfold pD
  simp only [PyData.eqv, PyData.eqvAll, Bool.and_true]
  rw [Bool.eq_iff_iff]
  simp
theorem eqvAll_pairs : ∀ ps qs : List (Int × Int), PyData.eqvAll (ps.map pD) (qs.map pD) = decide (ps = qs)
  | [], [] => by simp [PyData.eqvAll]
  | [], _ :: _ => by simp [PyData.eqvAll]
  | _ :: _, [] => by simp [PyData.eqvAll]
  | p :: ps, q :: qs => by
    simp only [List.map_cons, PyData.eqvAll, eqv_pair, eqvAll_pairs ps qs, List.cons.injEq]
    by_cases h1 : p = q <;> by_cases h2 : ps = qs <;> simp [h1, h2]
section
variable {c : Cx} {X : XP} {l : Lo} {hp : List O} {K : KV}
theorem cmp_pairs_eq {i j : Nat} {xs ys : List (Int × Int)} (h1 : hp[i]? = some (.list (xs.map pV))) (h2 : hp[j]? = some (.list (ys.map pV))) (h : K (.bool (decide (xs = ys))) l hp) : Cmp c X .Eq (.ref i) (.ref j) l hp K :=
  cmp_deq (.list h1 (dats_pairs hp xs)) (.list h2 (dats_pairs hp ys)) (shaped_pairs xs) (shaped_pairs ys) (by rw [show PyData.eqv (.list (xs.map pD)) (.list (ys.map pD)) = decide (xs = ys) by rw [PyData.eqv]; exact eqvAll_pairs xs ys]; exact h)
theorem cmp_pairs_ne {i j : Nat} {xs ys : List (Int × Int)} (h1 : hp[i]? = some (.list (xs.map pV))) (h2 : hp[j]? = some (.list (ys.map pV))) (h : K (.bool (!decide (xs = ys))) l hp) : Cmp c X .NotEq (.ref i) (.ref j) l hp K :=
  cmp_dne (.list h1 (dats_pairs hp xs)) (.list h2 (dats_pairs hp ys)) (shaped_pairs xs) (shaped_pairs ys) (by rw [show PyData.eqv (.list (xs.map pD)) (.list (ys.map pD)) = decide (xs = ys) by rw [PyData.eqv]; exact eqvAll_pairs xs ys]; exact h)
theorem pairs_of {R : Nat → Int × Int → Prop} : ∀ {vs : List V}, (∀ (j : Nat) (hj : j < vs.length), ∃ x, vs[j] = pV x ∧ R j x) → ∃ ys : List (Int × Int), vs = ys.map pV ∧ ∀ (j : Nat) (hj : j < ys.length), R j ys[j] := by
  intro vs h
  refine ⟨(List.range vs.length).map fun j => if hj : j < vs.length then (h j hj).choose else (0, 0), ?_, ?_⟩
  · refine List.ext_getElem (by simp) fun j h1 h2 => ?_
    simp only [List.getElem_map, List.getElem_range, dif_pos h1]
    exact (h j h1).choose_spec.1
  · intro j hj
    have hj' : j < vs.length := by simpa using hj
    simp only [List.getElem_map, List.getElem_range, dif_pos hj']
    exact (h j hj').choose_spec.2
theorem map_appP (xs : List (Int × Int)) (x : Int × Int) : xs.map pV ++ [pV x] = (xs ++ [x]).map pV := by simp
end
/-- a comprehension of pairs -/
theorem comp_pairs {c : Cx} {l : Lo} {hp : List O} {pg : Pg} {sc : Scope} {ns : List Int} {lev : Nat} {qt : Bool} (hc : CxIs c pg sc ns lev qt) {elt t : Expr} {csc : Scope} {its : List V} {need : St → Prop} {K : List O → Prop} (ck : compCk sc csc t = true) (R : Nat → Int × Int → Prop) (hl : its.length ≤ sizeLine) (hneed : ∀ vs : List V, need ⟨l, hp ++ [.list vs]⟩)
    (turn : ∀ (k : Nat) (hk : k < its.length) (vs : List V), vs.length = k → ∃ bs, tgtV t its[k] = some bs ∧ ∀ c', CxIs c' pg (relab csc) ns lev qt → E c' X0 elt (setAll (compLoc csc l) bs) (hp ++ [.list vs]) (fun v _ hp' => hp' = hp ++ [.list vs] ∧ ∃ x, v = pV x ∧ R k x))
    (fin : ∀ ys : List (Int × Int), ys.length = its.length → (∀ (j : Nat) (hj : j < ys.length), R j ys[j]) → K (hp ++ [.list (ys.map pV)])) : Comp c elt t [] csc its need l hp K := by
  refine comp_gen hc ck (fun k v => ∃ x, v = pV x ∧ R k x) hl hneed (fun k hk vs hv _ => turn k hk vs hv) fun vs hv hall => ?_
  obtain ⟨ys, rfl, hR⟩ := pairs_of hall
  exact fin ys (by simpa using hv) hR
end Mine

set_option autoImplicit false
namespace Mine
open PySem PySem.W PySem.Calls PySem.Spec PyProof.Rows

/-! the sort of a list, by a key that tells any two items apart -/
def kf (key : Value → Int) (a : Array Keyed) (i : Nat) : Int := match a[i]? with
  | some p => key p.1
  | none => 0
theorem kf_congr {key : Value → Int} {a b : Array Keyed} {i j : Nat} (h : a[i]? = b[j]?) : kf key a i = kf key b j := by unfold kf; rw [h]
def Srt (key : Value → Int) (a : Array Keyed) (lo hi : Nat) : Prop := ∀ i j, lo ≤ i → i ≤ j → j < hi → kf key a i ≤ kf key a j
structure Ord (prog : Program) (w : World) (A : Around) (s : Shared) (κ : SortKind) (key : Value → Int) (a₀ : Array Keyed) : Prop where
  lt : ∀ p ∈ a₀.toList, ∀ q ∈ a₀.toList, ∀ (Q : Bool → Shared → Prop) (E : Value → Shared → Prop), Q (decide (key p.1 < key q.1)) s → wpAny (model prog w) A (keyLt' κ p.1 q.1) Q E s
  nd : (a₀.toList.map fun p => key p.1).Nodup
structure SB (κ : SortKind) (a₀ : Array Keyed) (st : SortSt) : Prop where
  perm : (arrOf st).Perm a₀
  failed : failedOf st = none
  kind : kindOf st = κ
theorem SB.size {κ : SortKind} {a₀ : Array Keyed} {st : SortSt} (h : SB κ a₀ st) : (arrOf st).size = a₀.size := h.perm.size_eq
theorem SB.setArr {κ : SortKind} {a₀ : Array Keyed} {st : SortSt} (h : SB κ a₀ st) {xs : Array Keyed} (hp : xs.Perm (arrOf st)) : SB κ a₀ (setArr st xs) := ⟨hp.trans h.perm, h.failed, h.kind⟩
theorem SB.at {κ : SortKind} {a₀ : Array Keyed} {st : SortSt} (h : SB κ a₀ st) {i : Nat} (hi : i < a₀.size) : ∃ p, (arrOf st)[i]? = some p ∧ p ∈ a₀.toList := by
  have hi' : i < (arrOf st).size := by rw [h.size]; exact hi
  exact ⟨(arrOf st)[i], getElem?_pos _ i hi', (Array.perm_iff_toList_perm.mp h.perm).mem_iff.mp (by simp)⟩
theorem SB.ne {prog : Program} {w : World} {A : Around} {s : Shared} {κ : SortKind} {key : Value → Int} {a₀ : Array Keyed} {st : SortSt} (O : Ord prog w A s κ key a₀) (h : SB κ a₀ st) {i j : Nat} (hi : i < a₀.size) (hj : j < a₀.size) (e : kf key (arrOf st) i = kf key (arrOf st) j) : i = j := by
  have nd : ((arrOf st).toList.map fun p => key p.1).Nodup := ((Array.perm_iff_toList_perm.mp h.perm).map _).nodup_iff.mpr O.nd
  have hi' : i < (arrOf st).size := by rw [h.size]; exact hi
  have hj' : j < (arrOf st).size := by rw [h.size]; exact hj
  have e1 : ((arrOf st).toList.map fun p => key p.1)[i]? = some (kf key (arrOf st) i) := by
    rw [List.getElem?_map, Array.getElem?_toList, getElem?_pos _ i hi']; unfold kf; rw [getElem?_pos _ i hi']; rfl
  have e2 : ((arrOf st).toList.map fun p => key p.1)[j]? = some (kf key (arrOf st) j) := by
    rw [List.getElem?_map, Array.getElem?_toList, getElem?_pos _ j hj']; unfold kf; rw [getElem?_pos _ j hj']; rfl
  exact (List.getElem?_inj (by simpa using hi') nd).mp (by rw [e1, e2, e])
section
variable {prog : Program} {w : World} {A : Around} {E : Value → Shared → Prop} {s : Shared} {κ : SortKind} {key : Value → Int} {a₀ : Array Keyed} {st : SortSt}
theorem wpS_lt (O : Ord prog w A s κ key a₀) (hk : kindOf st = κ) {p q : Keyed} (hp : p ∈ a₀.toList) (hq : q ∈ a₀.toList) {Q : Option Bool → SortSt → Prop} (h : Q (some (decide (key p.1 < key q.1))) st) : wpS (model prog w) A E s (lt' p q) Q st := by
  rw [lt'_eq]
  refine wpS_bind (wpS_get ?_)
  rw [hk]
  refine wpS_bind (wpS_lift (wpAny_attempt (O.lt p hp q hq _ _ ⟨rfl, ?_⟩)))
  exact wpS_pure h
theorem wpS_elem {a : Array Keyed} {i : Nat} {p : Keyed} (e : a[i]? = some p) {Q : Keyed → SortSt → Prop} (h : Q p st) : wpS (model prog w) A E s (elem' a i) Q st := by
  rw [elem'_eq, e]
  exact wpS_pure h
theorem wpS_ltA (O : Ord prog w A s κ key a₀) (B : SB κ a₀ st) {i j : Nat} (hi : i < a₀.size) (hj : j < a₀.size) {Q : Option Bool → SortSt → Prop} (h : Q (some (decide (kf key (arrOf st) i < kf key (arrOf st) j))) st) : wpS (model prog w) A E s (ltAt' i j) Q st := by
  obtain ⟨p, e1, m1⟩ := B.at hi
  obtain ⟨q, e2, m2⟩ := B.at hj
  rw [ltAt'_eq]
  refine wpS_bind (wpS_get ?_)
  show wpS _ _ _ _ (do let x ← elem' (arrOf st) i; let y ← elem' (arrOf st) j; lt' x y) Q st
  refine wpS_bind (wpS_elem e1 (wpS_bind (wpS_elem e2 (wpS_lt O B.kind m1 m2 ?_))))
  unfold kf at h
  rw [e1, e2] at h
  exact h
/-- what a piece of the sort leaves as it was -/
structure Left (lo : Nat) (st st' : SortSt) : Prop where
  low : ∀ i, i < lo → (arrOf st')[i]? = (arrOf st)[i]?
  pend : pendingOf st' = pendingOf st
theorem kf_mirror {a : Array Keyed} {i j : Nat} (hj : j ≤ a.size) (k : Nat) : kf key (mirror a i j ((j - i) / 2)) k = if i ≤ k ∧ k < j then kf key a (i + j - 1 - k) else kf key a k := by
  by_cases q : i ≤ k ∧ k < j
  · rw [if_pos q]
    exact kf_congr (by rw [getElem?_mirror_all hj, if_pos q])
  · rw [if_neg q]
    exact kf_congr (by rw [getElem?_mirror_all hj, if_neg q])
theorem wpS_count (O : Ord prog w A s κ key a₀) (B : SB κ a₀ st) {lo nrem : Nat} (h1 : 1 ≤ nrem) (hn : lo + nrem ≤ a₀.size) {Q : Option Nat → SortSt → Prop}
    (h : ∀ m st', SB κ a₀ st' → Left lo st st' → 1 ≤ m → m ≤ nrem → Srt key (arrOf st') lo (lo + m) → Q (some m) st') : wpS (model prog w) A E s (countRun' lo nrem) Q st := by
  have up : ∀ (n : Nat) (st₁ : SortSt), SB κ a₀ st₁ → n < nrem → 1 ≤ n → Srt key (arrOf st₁) lo (lo + n) → ¬ kf key (arrOf st₁) (lo + n) < kf key (arrOf st₁) (lo + n - 1) → Srt key (arrOf st₁) lo (lo + (n + 1)) := by
    intro n st₁ B₁ hn1 hn2 S z i j h1 h2 h3
    by_cases hj : j < lo + n
    · exact S i j h1 h2 hj
    · have : j = lo + n := by omega
      subst this
      by_cases hi : i = lo + n
      · subst hi; exact Int.le_refl _
      · exact Int.le_trans (S i (lo + n - 1) h1 (by omega) (by omega)) (by omega)
  rw [countRun'_eq]
  refine wpS_bind (wpS_mono (wpS_forRange (I := fun x c st' => st' = st ∧ c = (none, x) ∧ Srt key (arrOf st) lo (lo + x))
    (Q := fun c st' => st' = st ∧ ∃ n, c = (none, n) ∧ 1 ≤ n ∧ n ≤ nrem ∧ Srt key (arrOf st) lo (lo + n) ∧ (n = nrem ∨ kf key (arrOf st) (lo + n) < kf key (arrOf st) (lo + n - 1))) ?step ?fin ?init) ?post)
  case init => exact ⟨rfl, rfl, fun i j h1 h2 h3 => by have : i = j := (by omega); subst this; exact Int.le_refl _⟩
  case fin =>
    rintro c st' ⟨rfl, rfl, S⟩
    rw [show max 1 nrem = nrem by omega] at S ⊢
    exact ⟨rfl, nrem, rfl, h1, Nat.le_refl _, S, .inl rfl⟩
  case step =>
    rintro x c st' hx1 hx2 ⟨rfl, rfl, S⟩
    dsimp only
    refine wpS_bind (wpS_ltA O B (by omega) (by omega) ?_)
    by_cases z : kf key (arrOf st') (lo + x) < kf key (arrOf st') (lo + x - 1)
    · rw [decide_eq_true z]
      simp only [if_true]
      exact wpS_pure ⟨rfl, x, rfl, hx1, by omega, S, .inr z⟩
    · rw [decide_eq_false z]
      simp only [Bool.false_eq_true, if_false]
      exact wpS_pure ⟨rfl, rfl, up x st' B hx2 hx1 S z⟩
  case post =>
    rintro c st' ⟨rfl, n, rfl, n1, n2, S, or⟩
    dsimp only
    by_cases e : n = nrem
    · rw [if_pos (by simpa using e)]
      exact wpS_pure (h n st' B ⟨fun _ _ => rfl, rfl⟩ n1 n2 S)
    rw [if_neg (by simpa using e)]
    have hlt := or.resolve_left e
    by_cases g : n > 1
    · rw [if_pos g]
      refine wpS_bind (wpS_ltA O B (by omega) (by omega) ?_)
      have rose : kf key (arrOf st') lo < kf key (arrOf st') (lo + n - 1) := by
        have a := S lo (lo + n - 1) (Nat.le_refl _) (by omega) (by omega)
        have b : ¬ kf key (arrOf st') lo = kf key (arrOf st') (lo + n - 1) := fun q => by
          have := B.ne O (by omega) (by omega) q
          omega
        omega
      rw [decide_eq_true rose]
      simp only [if_true]
      exact wpS_pure (h n st' B ⟨fun _ _ => rfl, rfl⟩ n1 n2 S)
    rw [if_neg g]
    have : n = 1 := by omega
    subst this
    refine wpS_bind (wpS_lift (wpAny_rule ⟨rfl, ?_⟩))
    refine wpS_bind (wpS_mono (wpS_forRange (I := fun x c st₁ => st₁ = st' ∧ c = (none, x, 0) ∧ ∀ i j, lo ≤ i → i ≤ j → j < lo + x → kf key (arrOf st') j ≤ kf key (arrOf st') i)
      (Q := fun c st₁ => st₁ = st' ∧ ∃ m, c = (none, m, 0) ∧ 2 ≤ m ∧ m ≤ nrem ∧ ∀ i j, lo ≤ i → i ≤ j → j < lo + m → kf key (arrOf st') j ≤ kf key (arrOf st') i) ?step2 ?fin2 ?init2) ?post2)
    case init2 =>
      refine ⟨rfl, rfl, fun i j h1 h2 h3 => ?_⟩
      by_cases hij : i = j
      · subst hij; exact Int.le_refl _
      · have : i = lo := by omega
        have : j = lo + 1 := by omega
        subst i; subst j
        exact Int.le_of_lt hlt
    case fin2 =>
      rintro c st₁ ⟨rfl, rfl, D⟩
      rw [show max (1 + 1) nrem = nrem by omega] at D ⊢
      exact ⟨rfl, nrem, rfl, by omega, Nat.le_refl _, D⟩
    case step2 =>
      rintro x c st₁ hx1 hx2 ⟨rfl, rfl, D⟩
      dsimp only
      refine wpS_bind (wpS_ltA O B (by omega) (by omega) ?_)
      by_cases z : kf key (arrOf st₁) (lo + x) < kf key (arrOf st₁) (lo + x - 1)
      · rw [decide_eq_true z]
        simp only [if_true]
        rw [if_neg (by omega)]
        refine wpS_pure ⟨rfl, rfl, fun i j h1 h2 h3 => ?_⟩
        by_cases hj : j < lo + x
        · exact D i j h1 h2 hj
        · have : j = lo + x := by omega
          subst this
          by_cases hi : i = lo + x
          · subst hi; exact Int.le_refl _
          · exact Int.le_trans (Int.le_of_lt z) (D i (lo + x - 1) h1 (by omega) (by omega))
      · rw [decide_eq_false z]
        simp only [Bool.false_eq_true, if_false]
        refine wpS_bind (wpS_ltA O B (by omega) (by omega) ?_)
        have lg : kf key (arrOf st₁) (lo + x - 1) < kf key (arrOf st₁) (lo + x) := by
          have b : ¬ kf key (arrOf st₁) (lo + x) = kf key (arrOf st₁) (lo + x - 1) := fun q => by
            have := B.ne O (by omega) (by omega) q
            omega
          omega
        rw [decide_eq_true lg]
        simp only [if_true]
        exact wpS_pure ⟨rfl, x, rfl, hx1, by omega, D⟩
    case post2 =>
      rintro c st₁ ⟨rfl, m, rfl, m1, m2, D⟩
      dsimp only
      rw [if_neg (by omega)]
      have hsz : lo + m ≤ (arrOf st₁).size := by rw [B.size]; omega
      refine wpS_bind (wpS_reverse ?_)
      have B' : SB κ a₀ (PyProof.Rows.setArr st₁ (mirror (arrOf st₁) lo (lo + m) ((lo + m - lo) / 2))) := B.setArr (mirror_perm _ _ _ _)
      have S' : Srt key (arrOf (PyProof.Rows.setArr st₁ (mirror (arrOf st₁) lo (lo + m) ((lo + m - lo) / 2)))) lo (lo + m) := by
        intro i j h1 h2 h3
        show kf key (mirror (arrOf st₁) lo (lo + m) ((lo + m - lo) / 2)) i ≤ kf key (mirror (arrOf st₁) lo (lo + m) ((lo + m - lo) / 2)) j
        rw [kf_mirror hsz, kf_mirror hsz, if_pos (by omega), if_pos (by omega)]
        exact D _ _ (by omega) (by omega) (by omega)
      have L' : Left lo st₁ (PyProof.Rows.setArr st₁ (mirror (arrOf st₁) lo (lo + m) ((lo + m - lo) / 2))) := ⟨fun i hi => by
        show (mirror (arrOf st₁) lo (lo + m) ((lo + m - lo) / 2))[i]? = _
        rw [getElem?_mirror_all hsz, if_neg (by omega)], rfl⟩
      generalize PyProof.Rows.setArr st₁ (mirror (arrOf st₁) lo (lo + m) ((lo + m - lo) / 2)) = st₂ at B' S' L'
      refine wpS_bind (wpS_mono (wpS_forRange (I := fun x c st' => st' = st₂ ∧ c = (none, x) ∧ Srt key (arrOf st₂) lo (lo + x))
        (Q := fun c st' => st' = st₂ ∧ ∃ n, c = (none, n) ∧ 1 ≤ n ∧ n ≤ nrem ∧ Srt key (arrOf st₂) lo (lo + n)) ?step3 ?fin3 ?init3) ?post3)
      case init3 => exact ⟨rfl, rfl, S'⟩
      case fin3 =>
        rintro c st' ⟨rfl, rfl, S⟩
        rw [show max m nrem = nrem by omega] at S ⊢
        exact ⟨rfl, nrem, rfl, h1, Nat.le_refl _, S⟩
      case step3 =>
        rintro x c st' hx1 hx2 ⟨rfl, rfl, S⟩
        dsimp only
        refine wpS_bind (wpS_ltA O B' (by omega) (by omega) ?_)
        by_cases z : kf key (arrOf st') (lo + x) < kf key (arrOf st') (lo + x - 1)
        · rw [decide_eq_true z]
          simp only [if_true]
          exact wpS_pure ⟨rfl, x, rfl, by omega, by omega, S⟩
        · rw [decide_eq_false z]
          simp only [Bool.false_eq_true, if_false]
          exact wpS_pure ⟨rfl, rfl, up x st' B' hx2 (by omega) S z⟩
      case post3 =>
        rintro c st' ⟨rfl, n, rfl, n1, n2, S⟩
        exact wpS_pure (h n st' B' L' n1 n2 S)
theorem kf_bubble {a : Array Keyed} {src d : Nat} (hs : src < a.size) (hd : d ≤ src) (k : Nat) : kf key (bubble a src d) k = if k = src - d then kf key a src else if src - d < k ∧ k ≤ src then kf key a (k - 1) else kf key a k := by
  by_cases q : k = src - d
  · rw [if_pos q]
    exact kf_congr (by rw [getElem?_bubble hs d hd, if_pos q])
  · rw [if_neg q]
    by_cases q' : src - d < k ∧ k ≤ src
    · rw [if_pos q']
      exact kf_congr (by rw [getElem?_bubble hs d hd, if_neg q, if_pos q'])
    · rw [if_neg q']
      exact kf_congr (by rw [getElem?_bubble hs d hd, if_neg q, if_neg q'])
theorem wpS_binary (O : Ord prog w A s κ key a₀) (B : SB κ a₀ st) {lo n ok : Nat} (hn : lo + n ≤ a₀.size) (hok : ok ≤ n) (S : Srt key (arrOf st) lo (lo + ok)) {Q : Bool → SortSt → Prop}
    (h : ∀ st', SB κ a₀ st' → Left lo st st' → Srt key (arrOf st') lo (lo + n) → Q true st') : wpS (model prog w) A E s (binarySort' lo n ok) Q st := by
  rw [binarySort'_eq]
  refine wpS_bind (wpS_mono (wpS_forRange (I := fun k c st' => c = (none, ()) ∧ SB κ a₀ st' ∧ Left lo st st' ∧ Srt key (arrOf st') lo (lo + min k n))
    (Q := fun c st' => c = (none, ()) ∧ SB κ a₀ st' ∧ Left lo st st' ∧ Srt key (arrOf st') lo (lo + n)) ?step ?fin ?init) ?post)
  case post =>
    rintro c st' ⟨rfl, B', L', S'⟩
    exact wpS_pure (h st' B' L' S')
  case init =>
    refine ⟨rfl, B, ⟨fun _ _ => rfl, rfl⟩, fun i j h1 h2 h3 => ?_⟩
    by_cases q : ok = 0
    · have : i = j := by omega
      subst this; exact Int.le_refl _
    · exact S i j h1 h2 (by omega)
  case fin =>
    rintro c st' ⟨hc, B', L', S'⟩
    refine ⟨hc, B', L', ?_⟩
    rwa [show min (max (max ok 1) n) n = n by omega] at S'
  case step =>
    rintro k c st' hak hkn ⟨rfl, B', L', S'⟩
    rw [show min k n = k by omega] at S'
    have hk : lo + k < a₀.size := by omega
    refine wpS_bind (wpS_mono (wpS_forRange (I := fun x c st'' => st'' = st' ∧ ∃ l r, c = (none, l, r) ∧ l ≤ r ∧ r ≤ k ∧ r - l ≤ k - x ∧
        (∀ i, lo ≤ i → i < lo + l → kf key (arrOf st') i ≤ kf key (arrOf st') (lo + k)) ∧ (∀ i, lo + r ≤ i → i < lo + k → kf key (arrOf st') (lo + k) < kf key (arrOf st') i))
      (Q := fun c st'' => st'' = st' ∧ ∃ l r, c = (none, l, r) ∧ l ≤ k ∧
        (∀ i, lo ≤ i → i < lo + l → kf key (arrOf st') i ≤ kf key (arrOf st') (lo + k)) ∧ (∀ i, lo + l ≤ i → i < lo + k → kf key (arrOf st') (lo + k) < kf key (arrOf st') i)) ?istep ?ifin ?iinit) ?ipost)
    case iinit => exact ⟨rfl, 0, k, rfl, by omega, by omega, by omega, fun i h1 h2 => by omega, fun i h1 h2 => by omega⟩
    case ifin =>
      rintro c st'' ⟨rfl, l, r, rfl, hlr, hrk, hm, hlo, hhi⟩
      have : l = r := by omega
      subst this
      exact ⟨rfl, l, l, rfl, hrk, hlo, hhi⟩
    case istep =>
      rintro x c st'' _ hxk ⟨rfl, l, r, rfl, hlr, hrk, hm, hlo, hhi⟩
      dsimp only
      by_cases hge : l ≥ r
      · rw [if_pos hge]
        have : l = r := by omega
        subst this
        exact wpS_pure ⟨rfl, l, l, rfl, hrk, hlo, hhi⟩
      · rw [if_neg hge]
        refine wpS_bind (wpS_ltA O B' hk (by omega) ?_)
        by_cases z : kf key (arrOf st'') (lo + k) < kf key (arrOf st'') (lo + (l + r) / 2)
        · rw [decide_eq_true z]
          simp only [if_true]
          refine wpS_pure ⟨rfl, l, (l + r) / 2, rfl, by omega, by omega, by omega, hlo, fun i h1 h2 => ?_⟩
          exact Int.lt_of_lt_of_le z (S' _ _ (by omega) h1 h2)
        · rw [decide_eq_false z]
          simp only [Bool.false_eq_true, if_false]
          refine wpS_pure ⟨rfl, (l + r) / 2 + 1, r, rfl, by omega, by omega, by omega, fun i h1 h2 => ?_, hhi⟩
          exact Int.le_trans (S' i (lo + (l + r) / 2) h1 (by omega) (by omega)) (by omega)
    case ipost =>
      rintro c st'' ⟨rfl, l, r, rfl, hlk, hlo, hhi⟩
      show wpS _ _ _ _ (do moveDown' (lo + k) (lo + l); pure (ForInStep.yield (none, ()))) _ _
      rw [moveDown'_eq]
      have hks : lo + k < (arrOf st'').size := by rw [B'.size]; exact hk
      refine wpS_bind (wpS_modify (wpS_pure ⟨rfl, B'.setArr (bubble_perm _ _ _), ⟨fun i hi => ?_, L'.pend⟩, ?_⟩))
      · show (bubble (arrOf st'') (lo + k) (lo + k - (lo + l)))[i]? = _
        rw [getElem?_bubble hks _ (by omega), if_neg (by omega), if_neg (by omega)]
        exact L'.low i hi
      rw [show min (k + 1) n = k + 1 by omega]
      intro i j h1 h2 h3
      show kf key (bubble (arrOf st'') (lo + k) (lo + k - (lo + l))) i ≤ kf key (bubble (arrOf st'') (lo + k) (lo + k - (lo + l))) j
      rw [kf_bubble hks (by omega), kf_bubble hks (by omega), show lo + k - (lo + k - (lo + l)) = lo + l by omega]
      repeat' split
      all_goals first
        | (exfalso; omega)
        | exact Int.le_refl _
        | exact hlo _ (by omega) (by omega)
        | exact Int.le_of_lt (hhi _ (by omega) (by omega))
        | exact S' _ _ (by omega) (by omega) (by omega)
end
end Mine

set_option autoImplicit false
namespace Mine
open PySem PySem.W PySem.Calls PySem.Spec PyProof.Rows

def gallop' : Bool → Keyed → Array Keyed → Nat → Nat → Nat → StateT SortSt Sem (Option Nat) := sortPriv% PySem.Builtin.gallop
theorem gallop'_eq (left : Bool) (key : Keyed) (arr : Array Keyed) (base n hint : Nat) : gallop' left key arr base n hint = (do
  let beyond (i : Nat) : StateT SortSt Sem (Option Bool) := do
    let x ← elem' arr (base + i)
    if left then lt' x key else return (← lt' key x).map (!·)
  let mut lastofs := 0
  let mut ofs := 1
  let mut lo := 0
  let mut hi := 0
  let some right ← beyond hint | return none
  if right then
    let maxofs := n - hint
    for _ in [0:n] do
      if ofs ≥ maxofs then break
      let some more ← beyond (hint + ofs) | return none
      if !more then break
      lastofs := ofs
      ofs := 2 * ofs + 1
    lo := hint + lastofs + 1
    hi := hint + min ofs maxofs
  else
    let maxofs := hint + 1
    for _ in [0:n] do
      if ofs ≥ maxofs then break
      let some found ← beyond (hint - ofs) | return none
      if found then break
      lastofs := ofs
      ofs := 2 * ofs + 1
    lo := hint + 1 - min ofs maxofs
    hi := hint - lastofs
  for _ in [0:n] do
    if lo ≥ hi then break
    let m := lo + (hi - lo) / 2
    let some more ← beyond m | return none
    if more then lo := m + 1 else hi := m
  return some hi) := rfl
section
variable {prog : Program} {w : World} {A : Around} {E : Value → Shared → Prop} {s : Shared} {κ : SortKind} {key : Value → Int} {a₀ : Array Keyed} {st : SortSt}
/-- an item lies ahead of the key -/
def bey (key : Value → Int) (left : Bool) (k x : Int) : Bool := if left then decide (x < k) else !decide (k < x)
theorem wpS_gallop (O : Ord prog w A s κ key a₀) (hk : kindOf st = κ) {left : Bool} {p : Keyed} {arr : Array Keyed} {base n hint : Nat} (hp : p ∈ a₀.toList) (hm : ∀ i, i < n → ∃ x, arr[base + i]? = some x ∧ x ∈ a₀.toList) (hh : hint < n)
    (S : ∀ i j, i ≤ j → j < n → kf key arr (base + i) ≤ kf key arr (base + j)) {Q : Option Nat → SortSt → Prop}
    (h : ∀ k, k ≤ n → (∀ i, i < k → bey key left (key p.1) (kf key arr (base + i)) = true) → (∀ i, k ≤ i → i < n → bey key left (key p.1) (kf key arr (base + i)) = false) → Q (some k) st) :
    wpS (model prog w) A E s (gallop' left p arr base n hint) Q st := by
  have by1 : ∀ (i : Nat), i < n → ∀ (R : Option Bool → SortSt → Prop), R (some (bey key left (key p.1) (kf key arr (base + i)))) st → wpS (model prog w) A E s (do
      let x ← elem' arr (base + i)
      if left = true then lt' x p else do
        let r ← lt' p x
        pure (r.map (!·))) R st := by
    intro i hi R hR
    obtain ⟨x, e, mx⟩ := hm i hi
    have ek : kf key arr (base + i) = key x.1 := by unfold kf; rw [e]
    rw [ek] at hR
    refine wpS_bind (wpS_elem e ?_)
    cases left with
    | true => simp only [if_true]; exact wpS_lt O hk mx hp (by simpa [bey] using hR)
    | false => simp only [Bool.false_eq_true, if_false]; exact wpS_bind (wpS_lt O hk hp mx (wpS_pure (by simpa [bey] using hR)))
  have mono : ∀ i j, i ≤ j → j < n → bey key left (key p.1) (kf key arr (base + j)) = true → bey key left (key p.1) (kf key arr (base + i)) = true := by
    intro i j h1 h2 h3
    have := S i j h1 h2
    unfold bey at *
    cases left <;> simp at * <;> omega
  have mono' : ∀ i j, i ≤ j → j < n → bey key left (key p.1) (kf key arr (base + i)) = false → bey key left (key p.1) (kf key arr (base + j)) = false := by
    intro i j h1 h2 h3
    cases z : bey key left (key p.1) (kf key arr (base + j)) with
    | false => rfl
    | true => rw [mono i j h1 h2 z] at h3; cases h3
  rw [gallop'_eq]
  dsimp only
  refine wpS_bind (by1 hint hh _ ?_)
  cases hr : bey key left (key p.1) (kf key arr (base + hint)) with
  | true =>
    dsimp only
    simp only [if_true]
    refine wpS_bind (wpS_mono (wpS_forRange (I := fun x c st' => st' = st ∧ ∃ lst ofs, c = (none, lst, ofs) ∧ lst < ofs ∧ x < ofs ∧ hint + lst < n ∧ bey key left (key p.1) (kf key arr (base + (hint + lst))) = true)
      (Q := fun c st' => st' = st ∧ ∃ lst ofs, c = (none, lst, ofs) ∧ lst < ofs ∧ hint + lst < n ∧ bey key left (key p.1) (kf key arr (base + (hint + lst))) = true ∧ (ofs ≥ n - hint ∨ (hint + ofs < n ∧ bey key left (key p.1) (kf key arr (base + (hint + ofs))) = false))) ?step ?fin ?init) ?post)
    case init => exact ⟨rfl, 0, 1, rfl, by omega, by omega, hh, hr⟩
    case fin =>
      rintro c st' ⟨rfl, lst, ofs, rfl, q1, q2, q3, q4⟩
      exact ⟨rfl, lst, ofs, rfl, q1, q3, q4, .inl (by omega)⟩
    case step =>
      rintro x c st' _ hx ⟨rfl, lst, ofs, rfl, q1, q2, q3, q4⟩
      dsimp only
      by_cases g : ofs ≥ n - hint
      · rw [if_pos g]
        exact wpS_pure ⟨rfl, lst, ofs, rfl, q1, q3, q4, .inl g⟩
      rw [if_neg g]
      refine wpS_bind (by1 (hint + ofs) (by omega) _ ?_)
      cases z : bey key left (key p.1) (kf key arr (base + (hint + ofs))) with
      | true =>
        simp only [Bool.not_true, Bool.false_eq_true, if_false]
        exact wpS_pure ⟨rfl, ofs, 2 * ofs + 1, rfl, by omega, by omega, by omega, z⟩
      | false =>
        simp only [Bool.not_false, if_true]
        exact wpS_pure ⟨rfl, lst, ofs, rfl, q1, q3, q4, .inr ⟨by omega, z⟩⟩
    case post =>
      rintro c st' ⟨rfl, lst, ofs, rfl, q1, q3, q4, q5⟩
      dsimp only
      have b1 : hint + lst + 1 ≤ hint + min ofs (n - hint) := by omega
      have b2 : hint + min ofs (n - hint) ≤ n := by omega
      have b3 : ∀ i, i < hint + lst + 1 → bey key left (key p.1) (kf key arr (base + i)) = true := fun i hi => mono i _ (by omega) q3 q4
      have b4 : ∀ i, hint + min ofs (n - hint) ≤ i → i < n → bey key left (key p.1) (kf key arr (base + i)) = false := fun i h1 h2 => by
        rcases q5 with q5 | ⟨q5, q6⟩
        · omega
        · exact mono' _ i (by omega) h2 q6
      generalize hint + lst + 1 = lo at b1 b3
      generalize hint + min ofs (n - hint) = hi at b1 b2 b4
      refine wpS_bind (wpS_mono (wpS_forRange (I := fun x c st₁ => st₁ = st' ∧ ∃ lo hi, c = (none, lo, hi) ∧ lo ≤ hi ∧ hi ≤ n ∧ hi - lo + x ≤ n ∧ (∀ i, i < lo → bey key left (key p.1) (kf key arr (base + i)) = true) ∧ (∀ i, hi ≤ i → i < n → bey key left (key p.1) (kf key arr (base + i)) = false))
        (Q := fun c st₁ => st₁ = st' ∧ ∃ hi, c = (none, hi, hi) ∧ hi ≤ n ∧ (∀ i, i < hi → bey key left (key p.1) (kf key arr (base + i)) = true) ∧ (∀ i, hi ≤ i → i < n → bey key left (key p.1) (kf key arr (base + i)) = false)) ?step' ?fin' ?init') ?post')
      case init' => exact ⟨rfl, lo, hi, rfl, b1, b2, by omega, b3, b4⟩
      case fin' =>
        rintro c st₁ ⟨rfl, lo, hi, rfl, q1, q2, q3, q4, q5⟩
        have : lo = hi := by omega
        subst this
        exact ⟨rfl, lo, rfl, q2, q4, q5⟩
      case step' =>
        rintro x c st₁ _ hx ⟨rfl, lo, hi, rfl, q1, q2, q3, q4, q5⟩
        dsimp only
        by_cases g : lo ≥ hi
        · rw [if_pos g]
          have : lo = hi := by omega
          subst this
          exact wpS_pure ⟨rfl, lo, rfl, q2, q4, q5⟩
        rw [if_neg g]
        refine wpS_bind (by1 (lo + (hi - lo) / 2) (by omega) _ ?_)
        cases z : bey key left (key p.1) (kf key arr (base + (lo + (hi - lo) / 2))) with
        | true =>
          simp only [if_true]
          exact wpS_pure ⟨rfl, _, hi, rfl, by omega, q2, by omega, fun i hi' => mono i _ (by omega) (by omega) z, q5⟩
        | false =>
          simp only [Bool.false_eq_true, if_false]
          exact wpS_pure ⟨rfl, lo, _, rfl, by omega, by omega, by omega, q4, fun i h1 h2 => mono' _ i h1 h2 z⟩
      case post' =>
        rintro c st₁ ⟨rfl, hi, rfl, q2, q4, q5⟩
        exact wpS_pure (h hi q2 q4 q5)
  | false =>
    dsimp only
    simp only [Bool.false_eq_true, if_false]
    refine wpS_bind (wpS_mono (wpS_forRange (I := fun x c st' => st' = st ∧ ∃ lst ofs, c = (none, lst, ofs) ∧ lst < ofs ∧ x < ofs ∧ lst ≤ hint ∧ bey key left (key p.1) (kf key arr (base + (hint - lst))) = false)
      (Q := fun c st' => st' = st ∧ ∃ lst ofs, c = (none, lst, ofs) ∧ lst < ofs ∧ lst ≤ hint ∧ bey key left (key p.1) (kf key arr (base + (hint - lst))) = false ∧ (ofs ≥ hint + 1 ∨ (ofs ≤ hint ∧ bey key left (key p.1) (kf key arr (base + (hint - ofs))) = true))) ?step ?fin ?init) ?post)
    case init => exact ⟨rfl, 0, 1, rfl, by omega, by omega, by omega, hr⟩
    case fin =>
      rintro c st' ⟨rfl, lst, ofs, rfl, q1, q2, q3, q4⟩
      exact ⟨rfl, lst, ofs, rfl, q1, q3, q4, .inl (by omega)⟩
    case step =>
      rintro x c st' _ hx ⟨rfl, lst, ofs, rfl, q1, q2, q3, q4⟩
      dsimp only
      by_cases g : ofs ≥ hint + 1
      · rw [if_pos g]
        exact wpS_pure ⟨rfl, lst, ofs, rfl, q1, q3, q4, .inl g⟩
      rw [if_neg g]
      refine wpS_bind (by1 (hint - ofs) (by omega) _ ?_)
      cases z : bey key left (key p.1) (kf key arr (base + (hint - ofs))) with
      | true =>
        simp only [if_true]
        exact wpS_pure ⟨rfl, lst, ofs, rfl, q1, q3, q4, .inr ⟨by omega, z⟩⟩
      | false =>
        simp only [Bool.false_eq_true, if_false]
        exact wpS_pure ⟨rfl, ofs, 2 * ofs + 1, rfl, by omega, by omega, by omega, z⟩
    case post =>
      rintro c st' ⟨rfl, lst, ofs, rfl, q1, q3, q4, q5⟩
      dsimp only
      have b1 : hint + 1 - min ofs (hint + 1) ≤ hint - lst := by omega
      have b2 : hint - lst ≤ n := by omega
      have b3 : ∀ i, i < hint + 1 - min ofs (hint + 1) → bey key left (key p.1) (kf key arr (base + i)) = true := fun i hi => by
        rcases q5 with q5 | ⟨q5, q6⟩
        · omega
        · exact mono i _ (by omega) (by omega) q6
      have b4 : ∀ i, hint - lst ≤ i → i < n → bey key left (key p.1) (kf key arr (base + i)) = false := fun i h1 h2 => mono' _ i h1 h2 q4
      generalize hint + 1 - min ofs (hint + 1) = lo at b1 b3
      generalize hint - lst = hi at b1 b2 b4
      refine wpS_bind (wpS_mono (wpS_forRange (I := fun x c st₁ => st₁ = st' ∧ ∃ lo hi, c = (none, lo, hi) ∧ lo ≤ hi ∧ hi ≤ n ∧ hi - lo + x ≤ n ∧ (∀ i, i < lo → bey key left (key p.1) (kf key arr (base + i)) = true) ∧ (∀ i, hi ≤ i → i < n → bey key left (key p.1) (kf key arr (base + i)) = false))
        (Q := fun c st₁ => st₁ = st' ∧ ∃ hi, c = (none, hi, hi) ∧ hi ≤ n ∧ (∀ i, i < hi → bey key left (key p.1) (kf key arr (base + i)) = true) ∧ (∀ i, hi ≤ i → i < n → bey key left (key p.1) (kf key arr (base + i)) = false)) ?step' ?fin' ?init') ?post')
      case init' => exact ⟨rfl, lo, hi, rfl, b1, b2, by omega, b3, b4⟩
      case fin' =>
        rintro c st₁ ⟨rfl, lo, hi, rfl, q1, q2, q3, q4, q5⟩
        have : lo = hi := by omega
        subst this
        exact ⟨rfl, lo, rfl, q2, q4, q5⟩
      case step' =>
        rintro x c st₁ _ hx ⟨rfl, lo, hi, rfl, q1, q2, q3, q4, q5⟩
        dsimp only
        by_cases g : lo ≥ hi
        · rw [if_pos g]
          have : lo = hi := by omega
          subst this
          exact wpS_pure ⟨rfl, lo, rfl, q2, q4, q5⟩
        rw [if_neg g]
        refine wpS_bind (by1 (lo + (hi - lo) / 2) (by omega) _ ?_)
        cases z : bey key left (key p.1) (kf key arr (base + (lo + (hi - lo) / 2))) with
        | true =>
          simp only [if_true]
          exact wpS_pure ⟨rfl, _, hi, rfl, by omega, q2, by omega, fun i hi' => mono i _ (by omega) (by omega) z, q5⟩
        | false =>
          simp only [Bool.false_eq_true, if_false]
          exact wpS_pure ⟨rfl, lo, _, rfl, by omega, by omega, by omega, q4, fun i h1 h2 => mono' _ i h1 h2 z⟩
      case post' =>
        rintro c st₁ ⟨rfl, hi, rfl, q2, q4, q5⟩
        exact wpS_pure (h hi q2 q4 q5)
end
end Mine

set_option autoImplicit false
namespace Mine
open PySem PySem.W PySem.Calls PySem.Spec PyProof.Rows

/-! two sorted rows are joined -/
section
variable {key : Value → Int}
def kle (key : Value → Int) (x y : Keyed) : Prop := key x.1 ≤ key y.1
structure ML (key : Value → Int) (out A B T : List Keyed) : Prop where
  perm : (out ++ A ++ B).Perm T
  srt : out.Pairwise (kle key)
  low : ∀ x ∈ out, ∀ y, y ∈ A ∨ y ∈ B → kle key x y
theorem ML.takeA {out A1 A2 B T : List Keyed} (h : ML key out (A1 ++ A2) B T) (s : A1.Pairwise (kle key)) (l : ∀ x ∈ A1, ∀ y, y ∈ A2 ∨ y ∈ B → kle key x y) : ML key (out ++ A1) A2 B T where
  perm := by have := h.perm; simpa [List.append_assoc] using this
  srt := List.pairwise_append.mpr ⟨h.srt, s, fun x hx y hy => h.low x hx y (.inl (List.mem_append_left _ hy))⟩
  low := fun x hx y hy => by
    rcases List.mem_append.mp hx with hx | hx
    · exact h.low x hx y (hy.imp (List.mem_append_right _) id)
    · exact l x hx y hy
theorem ML.takeB {out A B1 B2 T : List Keyed} (h : ML key out A (B1 ++ B2) T) (s : B1.Pairwise (kle key)) (l : ∀ x ∈ B1, ∀ y, y ∈ A ∨ y ∈ B2 → kle key x y) : ML key (out ++ B1) A B2 T where
  perm := by
    refine List.Perm.trans ?_ h.perm
    rw [List.append_assoc, List.append_assoc, List.append_assoc]
    refine List.Perm.append_left _ ?_
    rw [← List.append_assoc, ← List.append_assoc]
    exact List.Perm.append_right _ List.perm_append_comm
  srt := List.pairwise_append.mpr ⟨h.srt, s, fun x hx y hy => h.low x hx y (.inr (List.mem_append_left _ hy))⟩
  low := fun x hx y hy => by
    rcases List.mem_append.mp hx with hx | hx
    · exact h.low x hx y (hy.imp id (List.mem_append_right _))
    · exact l x hx y hy
def Good (key : Value → Int) (T : List Keyed) (r : Array Keyed) : Prop := r.toList.Perm T ∧ r.toList.Pairwise (kle key)
theorem ML.finAB {out A B T : List Keyed} (h : ML key out A B T) {r : Array Keyed} (e : r.toList = out ++ A ++ B) (s : (A ++ B).Pairwise (kle key)) : Good key T r := by
  refine ⟨by rw [e]; exact h.perm, ?_⟩
  rw [e, List.append_assoc]
  exact List.pairwise_append.mpr ⟨h.srt, s, fun x hx y hy => h.low x hx y (List.mem_append.mp hy)⟩
theorem ML.finBA {out A B T : List Keyed} (h : ML key out A B T) {r : Array Keyed} (e : r.toList = out ++ B ++ A) (s : (B ++ A).Pairwise (kle key)) : Good key T r := by
  refine ⟨?_, ?_⟩
  · rw [e, List.append_assoc]
    refine List.Perm.trans ?_ h.perm
    rw [List.append_assoc]
    exact List.Perm.append_left _ List.perm_append_comm
  · rw [e, List.append_assoc]
    exact List.pairwise_append.mpr ⟨h.srt, s, fun x hx y hy => h.low x hx y ((List.mem_append.mp hy).symm)⟩
theorem drop_cons {a : Array Keyed} {i : Nat} {x : Keyed} (e : a[i]? = some x) : a.toList.drop i = x :: a.toList.drop (i + 1) := by
  have hi : i < a.toList.length := by
    rcases Nat.lt_or_ge i a.toList.length with q | q
    · exact q
    · rw [Array.getElem?_eq_none (by simpa using q)] at e; cases e
  rw [List.drop_eq_getElem_cons hi]
  congr 1
  have : a.toList[i]? = some x := by rw [Array.getElem?_toList]; exact e
  rw [List.getElem?_eq_getElem hi] at this
  exact Option.some.inj this
theorem mem_drop' {a : Array Keyed} {i : Nat} {y : Keyed} (h : y ∈ a.toList.drop i) : ∃ j, i ≤ j ∧ j < a.size ∧ a[j]? = some y := by
  obtain ⟨k, hk, e⟩ := List.mem_iff_getElem.mp h
  rw [List.getElem_drop] at e
  have hlt : i + k < a.size := by simp at hk; omega
  exact ⟨i + k, by omega, hlt, by rw [getElem?_pos a (i + k) hlt, ← e]; simp⟩
theorem kf_at {a : Array Keyed} {i : Nat} {x : Keyed} (e : a[i]? = some x) : kf key a i = key x.1 := by unfold kf; rw [e]
theorem srt_list {a : Array Keyed} (S : Srt key a 0 a.size) : a.toList.Pairwise (kle key) := by
  rw [List.pairwise_iff_getElem]
  intro i j hi hj hij
  have := S i j (Nat.zero_le _) (by omega) (by simpa using hj)
  rw [kf_at (getElem?_pos a i (by simpa using hi)), kf_at (getElem?_pos a j (by simpa using hj))] at this
  simpa [kle] using this
structure Two (key : Value → Int) (a b : Array Keyed) : Prop where
  sa : Srt key a 0 a.size
  sb : Srt key b 0 b.size
  last : ∀ j, j < b.size → kf key b j < kf key a (a.size - 1)
  first : ∀ i, i < a.size → kf key b 0 < kf key a i
structure In (key : Value → Int) (a b : Array Keyed) (out : Array Keyed) (ia ib : Nat) : Prop where
  ml : ML key out.toList (a.toList.drop ia) (b.toList.drop ib) (a.toList ++ b.toList)
  ha : ia + 1 < a.size
  hb : ib < b.size
variable {a b out : Array Keyed} {ia ib k : Nat} {x : Keyed}
theorem extract_all (a : Array Keyed) (i : Nat) : (a.extract i a.size).toList = a.toList.drop i := by
  rw [Array.toList_extract, List.extract_eq_take_drop]
  exact List.take_of_length_le (by simp)
theorem extract_some (a : Array Keyed) (i k : Nat) : (a.extract i (i + k)).toList = (a.toList.drop i).take k := by
  rw [Array.toList_extract, List.extract_eq_take_drop, Nat.add_sub_cancel_left]
theorem drop_take (l : List Keyed) (i k : Nat) : l.drop i = (l.drop i).take k ++ l.drop (i + k) := by
  rw [← List.drop_drop, List.take_append_drop]
theorem In.pushB (W : Two key a b) (h : In key a b out ia ib) (e : b[ib]? = some x) (l : kf key b ib ≤ kf key a ia) :
    (ib + 1 = b.size → Good key (a.toList ++ b.toList) (out.push x ++ a.extract ia a.size ++ b.extract (ib + 1) b.size)) ∧ (ib + 1 ≠ b.size → In key a b (out.push x) ia (ib + 1)) := by
  have m : ML key (out.push x).toList (a.toList.drop ia) (b.toList.drop (ib + 1)) (a.toList ++ b.toList) := by
    have := h.ml
    rw [drop_cons e, ← List.singleton_append] at this
    rw [Array.toList_push]
    refine this.takeB (by simp) fun z hz y hy => ?_
    rw [List.mem_singleton.mp hz]
    unfold kle
    rw [← kf_at (key := key) e]
    rcases hy with hy | hy
    · obtain ⟨j, j1, j2, ej⟩ := mem_drop' hy
      rw [← kf_at (key := key) ej]
      exact Int.le_trans l (W.sa ia j (Nat.zero_le _) j1 j2)
    · obtain ⟨j, j1, j2, ej⟩ := mem_drop' hy
      rw [← kf_at (key := key) ej]
      exact W.sb ib j (Nat.zero_le _) (by omega) j2
  refine ⟨fun q => ?_, fun q => ⟨m, h.ha, by have := h.hb; omega⟩⟩
  refine m.finAB (by simp only [Array.toList_append, extract_all]) ?_
  rw [show b.toList.drop (ib + 1) = [] from List.drop_eq_nil_of_le (by simp; omega), List.append_nil]
  exact (srt_list W.sa).sublist (List.drop_sublist _ _)
theorem last_one (W : Two key a b) (q : ia + 1 = a.size) : (b.toList.drop ib ++ a.toList.drop ia).Pairwise (kle key) := by
  refine List.pairwise_append.mpr ⟨(srt_list W.sb).sublist (List.drop_sublist _ _), (srt_list W.sa).sublist (List.drop_sublist _ _), fun y hy z hz => ?_⟩
  obtain ⟨j, j1, j2, ej⟩ := mem_drop' hy
  obtain ⟨i, i1, i2, ei⟩ := mem_drop' hz
  unfold kle
  rw [← kf_at (key := key) ej, ← kf_at (key := key) ei, show i = a.size - 1 by omega]
  exact Int.le_of_lt (W.last j j2)
theorem In.pushA (W : Two key a b) (h : In key a b out ia ib) (e : a[ia]? = some x) (l : kf key a ia ≤ kf key b ib) :
    (ia + 1 + 1 = a.size → Good key (a.toList ++ b.toList) (out.push x ++ b.extract ib b.size ++ a.extract (ia + 1) a.size)) ∧ (ia + 1 + 1 ≠ a.size → In key a b (out.push x) (ia + 1) ib) := by
  have m : ML key (out.push x).toList (a.toList.drop (ia + 1)) (b.toList.drop ib) (a.toList ++ b.toList) := by
    have := h.ml
    rw [drop_cons e, ← List.singleton_append] at this
    rw [Array.toList_push]
    refine this.takeA (by simp) fun z hz y hy => ?_
    rw [List.mem_singleton.mp hz]
    unfold kle
    rw [← kf_at (key := key) e]
    rcases hy with hy | hy
    · obtain ⟨j, j1, j2, ej⟩ := mem_drop' hy
      rw [← kf_at (key := key) ej]
      exact W.sa ia j (Nat.zero_le _) (by omega) j2
    · obtain ⟨j, j1, j2, ej⟩ := mem_drop' hy
      rw [← kf_at (key := key) ej]
      exact Int.le_trans l (W.sb ib j (Nat.zero_le _) j1 j2)
  refine ⟨fun q => ?_, fun q => ⟨m, by have := h.ha; omega, h.hb⟩⟩
  exact m.finBA (by simp only [Array.toList_append, extract_all]) (last_one W q)
theorem In.manyA (W : Two key a b) (h : In key a b out ia ib) (hk : ia + k < a.size) (l : ∀ i, i < k → kf key a (ia + i) ≤ kf key b ib) :
    (ia + k + 1 = a.size → Good key (a.toList ++ b.toList) (out ++ a.extract ia (ia + k) ++ b.extract ib b.size ++ a.extract (ia + k) a.size)) ∧ (ia + k + 1 ≠ a.size → In key a b (out ++ a.extract ia (ia + k)) (ia + k) ib) := by
  have m : ML key (out ++ a.extract ia (ia + k)).toList (a.toList.drop (ia + k)) (b.toList.drop ib) (a.toList ++ b.toList) := by
    have := h.ml
    rw [drop_take a.toList ia k] at this
    rw [Array.toList_append, extract_some]
    refine this.takeA ((srt_list W.sa).sublist ((List.take_sublist _ _).trans (List.drop_sublist _ _))) fun z hz y hy => ?_
    obtain ⟨i, hi, ez⟩ := List.mem_iff_getElem.mp hz
    have hi' : i < k := by simp at hi; omega
    have hz' : a[ia + i]? = some z := by
      rw [getElem?_pos a (ia + i) (by omega), ← ez]; simp
    unfold kle
    rw [← kf_at (key := key) hz']
    rcases hy with hy | hy
    · obtain ⟨j, j1, j2, ej⟩ := mem_drop' hy
      rw [← kf_at (key := key) ej]
      exact W.sa _ j (Nat.zero_le _) (by omega) j2
    · obtain ⟨j, j1, j2, ej⟩ := mem_drop' hy
      rw [← kf_at (key := key) ej]
      exact Int.le_trans (l i hi') (W.sb ib j (Nat.zero_le _) j1 j2)
  refine ⟨fun q => ?_, fun q => ⟨m, by omega, h.hb⟩⟩
  exact m.finBA (by simp only [Array.toList_append, extract_all]) (last_one W q)
theorem In.manyB (W : Two key a b) (h : In key a b out ia ib) (hk : ib + k ≤ b.size) (l : ∀ i, i < k → kf key b (ib + i) ≤ kf key a ia) :
    (ib + k = b.size → Good key (a.toList ++ b.toList) (out ++ b.extract ib (ib + k) ++ a.extract ia a.size ++ b.extract (ib + k) b.size)) ∧ (ib + k ≠ b.size → In key a b (out ++ b.extract ib (ib + k)) ia (ib + k)) := by
  have m : ML key (out ++ b.extract ib (ib + k)).toList (a.toList.drop ia) (b.toList.drop (ib + k)) (a.toList ++ b.toList) := by
    have := h.ml
    rw [drop_take b.toList ib k] at this
    rw [Array.toList_append, extract_some]
    refine this.takeB ((srt_list W.sb).sublist ((List.take_sublist _ _).trans (List.drop_sublist _ _))) fun z hz y hy => ?_
    obtain ⟨i, hi, ez⟩ := List.mem_iff_getElem.mp hz
    have hi' : i < k ∧ ib + i < b.size := by simp at hi; omega
    have hz' : b[ib + i]? = some z := by
      rw [getElem?_pos b (ib + i) hi'.2, ← ez]; simp
    unfold kle
    rw [← kf_at (key := key) hz']
    rcases hy with hy | hy
    · obtain ⟨j, j1, j2, ej⟩ := mem_drop' hy
      rw [← kf_at (key := key) ej]
      exact Int.le_trans (l i hi'.1) (W.sa ia j (Nat.zero_le _) j1 j2)
    · obtain ⟨j, j1, j2, ej⟩ := mem_drop' hy
      rw [← kf_at (key := key) ej]
      exact W.sb _ j (Nat.zero_le _) (by omega) j2
  refine ⟨fun q => ?_, fun q => ⟨m, h.ha, by omega⟩⟩
  refine m.finAB (by simp only [Array.toList_append, extract_all]) ?_
  rw [show b.toList.drop (ib + k) = [] from List.drop_eq_nil_of_le (by simp; omega), List.append_nil]
  exact (srt_list W.sa).sublist (List.drop_sublist _ _)
end
end Mine

set_option autoImplicit false
namespace Mine
open PySem PySem.W PySem.Calls PySem.Spec PyProof.Rows

def setMinGallop' : Nat → StateT SortSt Sem Unit := sortPriv% PySem.Builtin.setMinGallop
theorem setMinGallop'_eq (g : Nat) : setMinGallop' g = modify fun s => SortSt.mk' (kindOf s) (arrOf s) (pendingOf s) g (failedOf s) := rfl
def mergeLo' : Array Keyed → Array Keyed → StateT SortSt Sem (Array Keyed) := sortPriv% PySem.Builtin.mergeLo
theorem mergeLo'_eq (a b : Array Keyed) : mergeLo' a b = (do
  rule "list.sort.merge-lo"
  let total := a.size + b.size
  let done (out : Array Keyed) (ia ib : Nat) := out ++ a.extract ia a.size ++ b.extract ib b.size
  let lastOfA (out : Array Keyed) (ia ib : Nat) := out ++ b.extract ib b.size ++ a.extract ia a.size
  let mut out : Array Keyed := #[← elem' b 0]
  let mut ia := 0
  let mut ib := 1
  if ib == b.size then return done out ia ib
  if ia + 1 == a.size then return lastOfA out ia ib
  let mut minGallop := gallopOf (← get)
  for _ in [0:total] do
    let mut acount := 0
    let mut bcount := 0
    for _ in [0:total] do
      let some bWins ← lt' (← elem' b ib) (← elem' a ia) | return done out ia ib
      if bWins then
        out := out.push (← elem' b ib); ib := ib + 1; bcount := bcount + 1; acount := 0
        if ib == b.size then return done out ia ib
        if bcount ≥ minGallop then break
      else
        out := out.push (← elem' a ia); ia := ia + 1; acount := acount + 1; bcount := 0
        if ia + 1 == a.size then return lastOfA out ia ib
        if acount ≥ minGallop then break
    rule "list.sort.gallop"
    minGallop := minGallop + 1
    for _ in [0:total] do
      if minGallop > 1 then minGallop := minGallop - 1
      setMinGallop' minGallop
      let some k ← gallop' false (← elem' b ib) a ia (a.size - ia) 0 | return done out ia ib
      acount := k
      if k > 0 then
        out := out ++ a.extract ia (ia + k); ia := ia + k
        if ia + 1 == a.size then return lastOfA out ia ib
        if ia == a.size then return done out ia ib
      out := out.push (← elem' b ib); ib := ib + 1
      if ib == b.size then return done out ia ib
      let some k ← gallop' true (← elem' a ia) b ib (b.size - ib) 0 | return done out ia ib
      bcount := k
      if k > 0 then
        out := out ++ b.extract ib (ib + k); ib := ib + k
        if ib == b.size then return done out ia ib
      out := out.push (← elem' a ia); ia := ia + 1
      if ia + 1 == a.size then return lastOfA out ia ib
      if acount < 7 && bcount < 7 then break
    minGallop := minGallop + 1
    setMinGallop' minGallop
  unsupported "internal:list.sort.merge-bound") := rfl
/-- what a join leaves as it was -/
structure EqS (st st' : SortSt) : Prop where
  kind : kindOf st' = kindOf st
  arr : arrOf st' = arrOf st
  pend : pendingOf st' = pendingOf st
  failed : failedOf st' = failedOf st
theorem EqS.refl (st : SortSt) : EqS st st := ⟨rfl, rfl, rfl, rfl⟩
section
variable {prog : Program} {w : World} {A : Around} {E : Value → Shared → Prop} {s : Shared} {κ : SortKind} {key : Value → Int} {a₀ : Array Keyed} {st st' : SortSt}
theorem wpS_setG {g : Nat} {Q : Unit → SortSt → Prop} (e : EqS st st') (h : ∀ st'', EqS st st'' → Q () st'') : wpS (model prog w) A E s (setMinGallop' g) Q st' := by
  rw [setMinGallop'_eq]
  exact wpS_modify (h _ ⟨e.kind, e.arr, e.pend, e.failed⟩)
theorem cut2 {T G : Prop} (h1 : T → G) (h2 : T) : G := h1 h2
def Mem (a₀ a : Array Keyed) : Prop := ∀ i, i < a.size → ∃ x, a[i]? = some x ∧ x ∈ a₀.toList
theorem wpS_mergeLo (O : Ord prog w A s κ key a₀) (hk : kindOf st = κ) {a b : Array Keyed} (W : Two key a b) (hma : Mem a₀ a) (hmb : Mem a₀ b) (na : 1 ≤ a.size) (nb : 1 ≤ b.size) {Q : Array Keyed → SortSt → Prop}
    (h : ∀ r st', EqS st st' → Good key (a.toList ++ b.toList) r → Q r st') : wpS (model prog w) A E s (mergeLo' a b) Q st := by
  obtain ⟨x0, ex0, mx0⟩ := hmb 0 (by omega)
  have m0 : ML key [x0] (a.toList.drop 0) (b.toList.drop 1) (a.toList ++ b.toList) := by
    have m : ML key [] (a.toList.drop 0) ([x0] ++ b.toList.drop (0 + 1)) (a.toList ++ b.toList) := ⟨by rw [List.singleton_append, ← drop_cons ex0]; simp, by simp, by simp⟩
    refine m.takeB (by simp) fun z hz y hy => ?_
    rw [List.mem_singleton.mp hz]
    unfold kle
    rw [← kf_at (key := key) ex0]
    rcases hy with hy | hy
    · obtain ⟨j, j1, j2, ej⟩ := mem_drop' hy
      rw [← kf_at (key := key) ej]
      exact Int.le_of_lt (W.first j j2)
    · obtain ⟨j, j1, j2, ej⟩ := mem_drop' hy
      rw [← kf_at (key := key) ej]
      exact W.sb 0 j (Nat.zero_le _) (by omega) j2
  rw [mergeLo'_eq]
  refine wpS_bind (wpS_lift (wpAny_rule ⟨rfl, ?_⟩))
  dsimp only
  refine wpS_bind (wpS_elem ex0 ?_)
  by_cases n1 : 1 = b.size
  · rw [if_pos (by simpa using n1)]
    refine wpS_pure (h _ st (.refl _) (m0.finAB (by simp only [Array.toList_append, extract_all]) ?_))
    rw [show b.toList.drop 1 = [] from List.drop_eq_nil_of_le (by simp; omega), List.append_nil]
    exact (srt_list W.sa).sublist (List.drop_sublist _ _)
  rw [if_neg (by simpa using n1)]
  by_cases n2 : 0 + 1 = a.size
  · rw [if_pos (by simpa using n2)]
    exact wpS_pure (h _ st (.refl _) (m0.finBA (by simp only [Array.toList_append, extract_all]) (last_one W n2)))
  rw [if_neg (by simpa using n2)]
  refine wpS_bind (wpS_get ?_)
  have I0 : In key a b #[x0] 0 1 := ⟨m0, by omega, by omega⟩
  refine wpS_bind (wpS_mono (wpS_forRange (I := fun x c st₁ => EqS st st₁ ∧ ∃ out ia ib mg, c = (none, out, ia, ib, mg) ∧ In key a b out ia ib ∧ x + 1 ≤ ia + ib)
    (Q := fun c st₁ => EqS st st₁ ∧ ∃ r c', c = (some r, c') ∧ Good key (a.toList ++ b.toList) r) ?step ?fin ?init) ?post)
  case init => exact ⟨.refl _, _, _, _, _, rfl, I0, by omega⟩
  case fin =>
    rintro c st₁ ⟨e, out, ia, ib, mg, rfl, hI, hx⟩
    have := hI.ha
    have := hI.hb
    omega
  case post =>
    rintro c st₁ ⟨e, r, c', rfl, G⟩
    exact wpS_pure (h r st₁ e G)
  case step =>
    rintro x c st₁ _ hx ⟨e, out, ia, ib, mg, rfl, hI, hx'⟩
    dsimp only
    refine wpS_bind (wpS_mono (wpS_forRange (I := fun y c st₂ => st₂ = st₁ ∧ ∃ out ia ib ac bc, c = (none, out, ia, ib, ac, bc) ∧ In key a b out ia ib ∧ x + 1 + y ≤ ia + ib)
      (Q := fun c st₂ => st₂ = st₁ ∧ ((∃ out ia ib ac bc, c = (none, out, ia, ib, ac, bc) ∧ In key a b out ia ib ∧ x + 2 ≤ ia + ib) ∨ ∃ r c', c = (some r, c') ∧ Good key (a.toList ++ b.toList) r)) ?step1 ?fin1 ?init1) ?post1)
    case init1 => exact ⟨rfl, _, _, _, _, _, rfl, hI, by omega⟩
    case fin1 =>
      rintro c st₂ ⟨rfl, out, ia, ib, ac, bc, rfl, hI, hy⟩
      have := hI.ha
      have := hI.hb
      omega
    case step1 =>
      rintro y c st₂ _ hy ⟨rfl, out, ia, ib, ac, bc, rfl, hI, hy'⟩
      dsimp only
      obtain ⟨v, ev, mv⟩ := hmb ib hI.hb
      obtain ⟨u, eu, mu⟩ := hma ia (Nat.lt_of_succ_lt hI.ha)
      refine wpS_bind (wpS_elem ev (wpS_bind (wpS_elem eu (wpS_bind (wpS_lt O (e.kind.trans hk) mv mu ?_)))))
      rw [← kf_at (key := key) ev, ← kf_at (key := key) eu]
      by_cases z : kf key b ib < kf key a ia
      · rw [decide_eq_true z]
        simp only [if_true]
        refine wpS_bind (wpS_elem ev ?_)
        obtain ⟨p1, p2⟩ := hI.pushB W ev (Int.le_of_lt z)
        by_cases q : ib + 1 = b.size
        · rw [if_pos (by simpa using q)]
          exact wpS_pure ⟨rfl, .inr ⟨_, _, rfl, p1 q⟩⟩
        rw [if_neg (by simpa using q)]
        have hI := p2 q
        split
        · exact wpS_pure ⟨rfl, .inl ⟨_, _, _, _, _, rfl, hI, by omega⟩⟩
        · exact wpS_pure ⟨rfl, _, _, _, _, _, rfl, hI, by omega⟩
      · rw [decide_eq_false z]
        simp only [Bool.false_eq_true, if_false]
        refine wpS_bind (wpS_elem eu ?_)
        obtain ⟨p1, p2⟩ := hI.pushA W eu (by omega)
        by_cases q : ia + 1 + 1 = a.size
        · rw [if_pos (by simpa using q)]
          exact wpS_pure ⟨rfl, .inr ⟨_, _, rfl, p1 q⟩⟩
        rw [if_neg (by simpa using q)]
        have hI := p2 q
        split
        · exact wpS_pure ⟨rfl, .inl ⟨_, _, _, _, _, rfl, hI, by omega⟩⟩
        · exact wpS_pure ⟨rfl, _, _, _, _, _, rfl, hI, by omega⟩
    case post1 =>
      rintro c st₂ ⟨rfl, (⟨out, ia, ib, ac, bc, rfl, hI, hy⟩ | ⟨r, ⟨out, ia, ib, ac, bc⟩, rfl, G⟩)⟩
      rotate_left
      · exact wpS_pure ⟨e, r, _, rfl, G⟩
      dsimp only
      refine wpS_bind (wpS_lift (wpAny_rule ⟨rfl, ?_⟩))
      refine wpS_bind (wpS_mono (wpS_forRange (I := fun y c st₃ => EqS st st₃ ∧ ∃ out ia ib mg ac bc, c = (none, out, ia, ib, mg, ac, bc) ∧ In key a b out ia ib ∧ x + 2 ≤ ia + ib)
        (Q := fun c st₃ => EqS st st₃ ∧ ((∃ out ia ib mg ac bc, c = (none, out, ia, ib, mg, ac, bc) ∧ In key a b out ia ib ∧ x + 2 ≤ ia + ib) ∨ ∃ r c', Good key (a.toList ++ b.toList) r ∧ c = (some r, c'))) ?step2 ?fin2 ?init2) ?post2)
      case init2 => exact ⟨e, _, _, _, _, _, _, rfl, hI, by omega⟩
      case fin2 => exact fun c st₃ hh => ⟨hh.1, .inl hh.2⟩
      case post2 =>
        rintro c st₃ ⟨e3, (⟨out, ia, ib, mg, ac, bc, rfl, hI, hy⟩ | ⟨r, ⟨out, ia, ib, mg, ac, bc⟩, G, rfl⟩)⟩
        rotate_left
        · exact wpS_pure ⟨e3, r, _, rfl, G⟩
        dsimp only
        refine wpS_bind (wpS_setG e3 fun st₄ e4 => ?_)
        exact wpS_pure ⟨e4, _, _, _, _, rfl, hI, by omega⟩
      case step2 =>
        clear hI hy hx' out ia ib
        rintro y c st₃ _ hy ⟨e1, out, ia, ib, mg, ac, bc, rfl, hI, hy'⟩
        dsimp only
        apply cut2
        case h1 =>
          intro key₂
          by_cases g1 : mg > 1
          · rw [if_pos g1]; generalize mg - 1 = g; revert g; exact key₂
          · rw [if_neg g1]; generalize mg = g; revert g; exact key₂
        intro g
        refine wpS_bind (wpS_setG e1 fun st₂ e2 => ?_)
        obtain ⟨y, ey, my⟩ := hmb ib hI.hb
        refine wpS_bind (wpS_elem ey ?_)
        refine wpS_bind (wpS_gallop O (e2.kind.trans hk) my (fun i hi => hma _ (by omega)) (by have := hI.ha; omega) (fun i j h1 h2 => W.sa _ _ (Nat.zero_le _) (by omega) (by omega)) fun k k1 k2 k3 => ?_)
        rw [← kf_at (key := key) ey] at k2 k3
        dsimp only
        have hkl : ia + k < a.size := by
          have := hI.ha
          rcases Nat.lt_or_ge (ia + k) a.size with z | z
          · exact z
          · have z1 := k2 (a.size - 1 - ia) (by omega)
            have z2 := W.last ib hI.hb
            rw [show ia + (a.size - 1 - ia) = a.size - 1 by omega] at z1
            simp [bey] at z1
            omega
        have hle : kf key b ib ≤ kf key a (ia + k) := by have := k3 k (Nat.le_refl _) (by omega); simp [bey] at this; omega
        apply cut2
        case h1 =>
          by_cases gk : k > 0
          · rw [if_pos gk]
            obtain ⟨p1, p2⟩ := hI.manyA W hkl fun i hi => by have := k2 i hi; simp [bey] at this; omega
            by_cases q : ia + k + 1 = a.size
            · rw [if_pos (by simpa using q)]
              exact fun _ => wpS_pure ⟨e2, .inr ⟨_, _, p1 q, rfl⟩⟩
            rw [if_neg (by simpa using q), if_neg (by simp; omega)]
            have hP : In key a b (out ++ a.extract ia (ia + k)) (ia + k) ib ∧ kf key b ib ≤ kf key a (ia + k) ∧ x + 2 ≤ ia + k + ib := ⟨p2 q, hle, by omega⟩
            intro key₃
            revert hP
            generalize out ++ a.extract ia (ia + k) = o1
            generalize ia + k = i1
            revert o1 i1
            exact key₃
          · rw [if_neg gk]
            have : k = 0 := by omega
            have hP : In key a b out ia ib ∧ kf key b ib ≤ kf key a ia ∧ x + 2 ≤ ia + ib := ⟨hI, by rw [this] at hle; exact hle, hy'⟩
            intro key₃
            revert hP
            generalize out = o1
            generalize ia = i1
            revert o1 i1
            exact key₃
        clear k2 k3 hkl hle hy' hI
        intro out ia hP
        obtain ⟨hI, hle, hy'⟩ := hP
        refine wpS_bind (wpS_elem ey ?_)
        obtain ⟨p1, p2⟩ := hI.pushB W ey hle
        by_cases q : ib + 1 = b.size
        · rw [if_pos (by simpa using q)]
          exact wpS_pure ⟨e2, .inr ⟨_, _, p1 q, rfl⟩⟩
        rw [if_neg (by simpa using q)]
        have hI := p2 q
        clear p1 p2
        have hy' : x + 2 ≤ ia + (ib + 1) := by omega
        generalize out.push y = o2 at hI ⊢
        generalize ib + 1 = jb at hI hy' ⊢
        obtain ⟨u, eu, mu⟩ := hma ia (Nat.lt_of_succ_lt hI.ha)
        refine wpS_bind (wpS_elem eu ?_)
        refine wpS_bind (wpS_gallop O (e2.kind.trans hk) mu (fun i hi => hmb _ (by omega)) (by have := hI.hb; omega) (fun i j h1 h2 => W.sb _ _ (Nat.zero_le _) (by omega) (by omega)) fun k₂ k₂1 k₂2 k₂3 => ?_)
        rw [← kf_at (key := key) eu] at k₂2 k₂3
        dsimp only
        apply cut2
        case h1 =>
          by_cases gk : k₂ > 0
          · rw [if_pos gk]
            obtain ⟨p1, p2⟩ := hI.manyB (k := k₂) W (by have := hI.hb; omega) fun i hi => by have := k₂2 i hi; simp [bey] at this; omega
            by_cases q : jb + k₂ = b.size
            · rw [if_pos (by simpa using q)]
              exact fun _ => wpS_pure ⟨e2, .inr ⟨_, _, p1 q, rfl⟩⟩
            rw [if_neg (by simpa using q)]
            have hP : In key a b (o2 ++ b.extract jb (jb + k₂)) ia (jb + k₂) ∧ kf key a ia ≤ kf key b (jb + k₂) ∧ x + 2 ≤ ia + (jb + k₂) := ⟨p2 q, by have := (p2 q).hb; have := k₂3 k₂ (Nat.le_refl _) (by omega); simp [bey] at this; omega, by omega⟩
            intro key₃
            revert hP
            generalize o2 ++ b.extract jb (jb + k₂) = o1
            generalize jb + k₂ = i1
            revert o1 i1
            exact key₃
          · rw [if_neg gk]
            have : k₂ = 0 := by omega
            have hP : In key a b o2 ia jb ∧ kf key a ia ≤ kf key b jb ∧ x + 2 ≤ ia + jb := ⟨hI, by have := hI.hb; have := k₂3 0 (by omega) (by omega); simp [bey] at this; omega, hy'⟩
            intro key₃
            revert hP
            generalize o2 = o1
            generalize jb = i1
            revert o1 i1
            exact key₃
        clear k₂2 k₂3 hy' hI hle
        intro out ib hP
        obtain ⟨hI, hle, hy'⟩ := hP
        refine wpS_bind (wpS_elem eu ?_)
        obtain ⟨p1, p2⟩ := hI.pushA W eu hle
        by_cases q : ia + 1 + 1 = a.size
        · rw [if_pos (by simpa using q)]
          exact wpS_pure ⟨e2, .inr ⟨_, _, p1 q, rfl⟩⟩
        rw [if_neg (by simpa using q)]
        have hI := p2 q
        split
        · exact wpS_pure ⟨e2, .inl ⟨_, _, _, _, _, _, rfl, hI, by omega⟩⟩
        · exact wpS_pure ⟨e2, _, _, _, _, _, _, rfl, hI, by omega⟩
end
end Mine

set_option autoImplicit false
namespace Mine
open PySem PySem.W PySem.Calls PySem.Spec PyProof.Rows

/-! the same from behind -/
section
variable {key : Value → Int}
structure MH (key : Value → Int) (A B out T : List Keyed) : Prop where
  perm : (A ++ B ++ out.reverse).Perm T
  srt : out.reverse.Pairwise (kle key)
  up : ∀ x ∈ out, ∀ y, y ∈ A ∨ y ∈ B → kle key y x
theorem MH.takeA {out A1 A2 B T : List Keyed} (h : MH key (A1 ++ A2) B out T) (s : A2.Pairwise (kle key)) (l : ∀ x ∈ A2, ∀ y, y ∈ A1 ∨ y ∈ B → kle key y x) : MH key A1 B (out ++ A2.reverse) T where
  perm := by
    refine List.Perm.trans ?_ h.perm
    rw [List.reverse_append, List.reverse_reverse, List.append_assoc, List.append_assoc, List.append_assoc]
    refine List.Perm.append_left _ ?_
    rw [← List.append_assoc, ← List.append_assoc]
    exact List.Perm.append_right _ List.perm_append_comm
  srt := by
    rw [List.reverse_append, List.reverse_reverse]
    exact List.pairwise_append.mpr ⟨s, h.srt, fun x hx y hy => h.up y (List.mem_reverse.mp hy) x (.inl (List.mem_append_right _ hx))⟩
  up := fun x hx y hy => by
    rcases List.mem_append.mp hx with hx | hx
    · exact h.up x hx y (hy.imp (List.mem_append_left _) id)
    · exact l x (List.mem_reverse.mp hx) y hy
theorem MH.takeB {out A B1 B2 T : List Keyed} (h : MH key A (B1 ++ B2) out T) (s : B2.Pairwise (kle key)) (l : ∀ x ∈ B2, ∀ y, y ∈ A ∨ y ∈ B1 → kle key y x) : MH key A B1 (out ++ B2.reverse) T where
  perm := by
    have := h.perm
    rw [List.reverse_append, List.reverse_reverse]
    simpa [List.append_assoc] using this
  srt := by
    rw [List.reverse_append, List.reverse_reverse]
    exact List.pairwise_append.mpr ⟨s, h.srt, fun x hx y hy => h.up y (List.mem_reverse.mp hy) x (.inr (List.mem_append_right _ hx))⟩
  up := fun x hx y hy => by
    rcases List.mem_append.mp hx with hx | hx
    · exact h.up x hx y (hy.imp id (List.mem_append_left _))
    · exact l x (List.mem_reverse.mp hx) y hy
theorem MH.finAB {out A B T : List Keyed} (h : MH key A B out T) {r : Array Keyed} (e : r.toList = A ++ B ++ out.reverse) (s : (A ++ B).Pairwise (kle key)) : Good key T r := by
  refine ⟨by rw [e]; exact h.perm, ?_⟩
  rw [e]
  exact List.pairwise_append.mpr ⟨s, h.srt, fun x hx y hy => h.up y (List.mem_reverse.mp hy) x (List.mem_append.mp hx)⟩
theorem MH.finBA {out A B T : List Keyed} (h : MH key A B out T) {r : Array Keyed} (e : r.toList = B ++ A ++ out.reverse) (s : (B ++ A).Pairwise (kle key)) : Good key T r := by
  refine ⟨?_, ?_⟩
  · rw [e]
    exact List.Perm.trans (List.Perm.append_right _ List.perm_append_comm) h.perm
  · rw [e]
    exact List.pairwise_append.mpr ⟨s, h.srt, fun x hx y hy => h.up y (List.mem_reverse.mp hy) x ((List.mem_append.mp hx).symm)⟩
theorem take_snoc {a : Array Keyed} {i : Nat} {x : Keyed} (e : a[i]? = some x) : a.toList.take (i + 1) = a.toList.take i ++ [x] := by
  rw [List.take_add_one, Array.getElem?_toList, e]
  rfl
theorem mem_take' {a : Array Keyed} {i : Nat} {y : Keyed} (h : y ∈ a.toList.take i) : ∃ j, j < i ∧ j < a.size ∧ a[j]? = some y := by
  obtain ⟨k, hk, e⟩ := List.mem_iff_getElem.mp h
  have hk' : k < i ∧ k < a.size := by simp at hk; omega
  rw [List.getElem_take] at e
  exact ⟨k, hk'.1, hk'.2, by rw [getElem?_pos a k hk'.2, ← e]; simp⟩
structure Hi (key : Value → Int) (a b : Array Keyed) (out : Array Keyed) (na nb : Nat) : Prop where
  mh : MH key (a.toList.take na) (b.toList.take nb) out.toList (a.toList ++ b.toList)
  ha : 0 < na
  ha' : na ≤ a.size
  hb : 1 < nb
  hb' : nb ≤ b.size
variable {a b out : Array Keyed} {na nb k : Nat} {x : Keyed}
theorem extract_low (a : Array Keyed) (i : Nat) : (a.extract 0 i).toList = a.toList.take i := by
  rw [Array.toList_extract, List.extract_eq_take_drop]
  simp
theorem extract_mid (a : Array Keyed) (i j : Nat) : (a.extract i j).toList = (a.toList.take j).drop i := by
  rw [Array.toList_extract, List.extract_eq_take_drop, List.drop_take]
theorem first_one (W : Two key a b) (ha : na ≤ a.size) : (b.toList.take 1 ++ a.toList.take na).Pairwise (kle key) := by
  refine List.pairwise_append.mpr ⟨(srt_list W.sb).sublist (List.take_sublist _ _), (srt_list W.sa).sublist (List.take_sublist _ _), fun y hy z hz => ?_⟩
  obtain ⟨j, j1, j2, ej⟩ := mem_take' hy
  obtain ⟨i, i1, i2, ei⟩ := mem_take' hz
  unfold kle
  rw [← kf_at (key := key) ej, ← kf_at (key := key) ei, show j = 0 by omega]
  exact Int.le_of_lt (W.first i i2)
theorem Hi.pushA (W : Two key a b) (h : Hi key a b out na nb) (e : a[na - 1]? = some x) (l : kf key b (nb - 1) ≤ kf key a (na - 1)) :
    (na - 1 = 0 → Good key (a.toList ++ b.toList) (a.extract 0 (na - 1) ++ b.extract 0 nb ++ (out.push x).reverse)) ∧ (na - 1 ≠ 0 → Hi key a b (out.push x) (na - 1) nb) := by
  have ha := h.ha
  have m : MH key (a.toList.take (na - 1)) (b.toList.take nb) (out.push x).toList (a.toList ++ b.toList) := by
    have := h.mh
    rw [show na = na - 1 + 1 by omega, take_snoc e] at this
    rw [Array.toList_push]
    refine this.takeA (A2 := [x]) (by simp) fun z hz y hy => ?_
    rw [List.mem_singleton.mp hz]
    unfold kle
    rw [← kf_at (key := key) e]
    rcases hy with hy | hy
    · obtain ⟨j, j1, j2, ej⟩ := mem_take' hy
      rw [← kf_at (key := key) ej]
      exact W.sa j _ (Nat.zero_le _) (by omega) (by have := h.ha'; omega)
    · obtain ⟨j, j1, j2, ej⟩ := mem_take' hy
      rw [← kf_at (key := key) ej]
      exact Int.le_trans (W.sb j (nb - 1) (Nat.zero_le _) (by omega) (by have := h.hb'; have := h.hb; omega)) l
  refine ⟨fun q => ?_, fun q => ⟨m, by omega, by have := h.ha'; omega, h.hb, h.hb'⟩⟩
  refine m.finAB (by simp only [Array.toList_append, extract_low, Array.toList_reverse]) ?_
  rw [q, List.take_zero, List.nil_append]
  exact (srt_list W.sb).sublist (List.take_sublist _ _)
theorem Hi.pushB (W : Two key a b) (h : Hi key a b out na nb) (e : b[nb - 1]? = some x) (l : kf key a (na - 1) ≤ kf key b (nb - 1)) :
    (nb - 1 = 1 → Good key (a.toList ++ b.toList) (b.extract 0 (nb - 1) ++ a.extract 0 na ++ (out.push x).reverse)) ∧ (nb - 1 ≠ 1 → Hi key a b (out.push x) na (nb - 1)) := by
  have hb := h.hb
  have m : MH key (a.toList.take na) (b.toList.take (nb - 1)) (out.push x).toList (a.toList ++ b.toList) := by
    have := h.mh
    rw [show nb = nb - 1 + 1 by omega, take_snoc e] at this
    rw [Array.toList_push]
    refine this.takeB (B2 := [x]) (by simp) fun z hz y hy => ?_
    rw [List.mem_singleton.mp hz]
    unfold kle
    rw [← kf_at (key := key) e]
    rcases hy with hy | hy
    · obtain ⟨j, j1, j2, ej⟩ := mem_take' hy
      rw [← kf_at (key := key) ej]
      exact Int.le_trans (W.sa j (na - 1) (Nat.zero_le _) (by omega) (by have := h.ha'; have := h.ha; omega)) l
    · obtain ⟨j, j1, j2, ej⟩ := mem_take' hy
      rw [← kf_at (key := key) ej]
      exact W.sb j _ (Nat.zero_le _) (by omega) (by have := h.hb'; omega)
  refine ⟨fun q => ?_, fun q => ⟨m, h.ha, h.ha', by omega, by have := h.hb'; omega⟩⟩
  refine m.finBA (by simp only [Array.toList_append, extract_low, Array.toList_reverse]) ?_
  rw [q]
  exact first_one W h.ha'
theorem Hi.manyA (W : Two key a b) (h : Hi key a b out na nb) (hk : k ≤ na) (l : ∀ i, k ≤ i → i < na → kf key b (nb - 1) ≤ kf key a i) :
    (k = 0 → Good key (a.toList ++ b.toList) (a.extract 0 k ++ b.extract 0 nb ++ (out ++ (a.extract k na).reverse).reverse)) ∧ (k ≠ 0 → Hi key a b (out ++ (a.extract k na).reverse) k nb) := by
  have m : MH key (a.toList.take k) (b.toList.take nb) (out ++ (a.extract k na).reverse).toList (a.toList ++ b.toList) := by
    have := h.mh
    rw [← List.take_append_drop k (a.toList.take na), List.take_take, show min k na = k by omega] at this
    rw [Array.toList_append, Array.toList_reverse, extract_mid]
    refine this.takeA ((srt_list W.sa).sublist ((List.drop_sublist _ _).trans (List.take_sublist _ _))) fun z hz y hy => ?_
    obtain ⟨i, hi, ez⟩ := List.mem_iff_getElem.mp hz
    have hi' : k + i < na ∧ k + i < a.size := by simp at hi; omega
    have hz' : a[k + i]? = some z := by rw [getElem?_pos a (k + i) hi'.2, ← ez]; simp
    unfold kle
    rw [← kf_at (key := key) hz']
    rcases hy with hy | hy
    · obtain ⟨j, j1, j2, ej⟩ := mem_take' hy
      rw [← kf_at (key := key) ej]
      exact W.sa j _ (Nat.zero_le _) (by omega) hi'.2
    · obtain ⟨j, j1, j2, ej⟩ := mem_take' hy
      rw [← kf_at (key := key) ej]
      exact Int.le_trans (W.sb j (nb - 1) (Nat.zero_le _) (by omega) (by have := h.hb'; have := h.hb; omega)) (l _ (by omega) hi'.1)
  refine ⟨fun q => ?_, fun q => ⟨m, by omega, by have := h.ha'; omega, h.hb, h.hb'⟩⟩
  refine m.finAB (by simp only [Array.toList_append, extract_low, Array.toList_reverse]) ?_
  rw [q, List.take_zero, List.nil_append]
  exact (srt_list W.sb).sublist (List.take_sublist _ _)
theorem Hi.manyB (W : Two key a b) (h : Hi key a b out na nb) (hk : k ≤ nb) (k0 : 0 < k) (l : ∀ i, k ≤ i → i < nb → kf key a (na - 1) ≤ kf key b i) :
    (k = 1 → Good key (a.toList ++ b.toList) (b.extract 0 k ++ a.extract 0 na ++ (out ++ (b.extract k nb).reverse).reverse)) ∧ (k ≠ 1 → Hi key a b (out ++ (b.extract k nb).reverse) na k) := by
  have m : MH key (a.toList.take na) (b.toList.take k) (out ++ (b.extract k nb).reverse).toList (a.toList ++ b.toList) := by
    have := h.mh
    rw [← List.take_append_drop k (b.toList.take nb), List.take_take, show min k nb = k by omega] at this
    rw [Array.toList_append, Array.toList_reverse, extract_mid]
    refine this.takeB ((srt_list W.sb).sublist ((List.drop_sublist _ _).trans (List.take_sublist _ _))) fun z hz y hy => ?_
    obtain ⟨i, hi, ez⟩ := List.mem_iff_getElem.mp hz
    have hi' : k + i < nb ∧ k + i < b.size := by simp at hi; omega
    have hz' : b[k + i]? = some z := by rw [getElem?_pos b (k + i) hi'.2, ← ez]; simp
    unfold kle
    rw [← kf_at (key := key) hz']
    rcases hy with hy | hy
    · obtain ⟨j, j1, j2, ej⟩ := mem_take' hy
      rw [← kf_at (key := key) ej]
      exact Int.le_trans (W.sa j (na - 1) (Nat.zero_le _) (by omega) (by have := h.ha'; have := h.ha; omega)) (l _ (by omega) hi'.1)
    · obtain ⟨j, j1, j2, ej⟩ := mem_take' hy
      rw [← kf_at (key := key) ej]
      exact W.sb j _ (Nat.zero_le _) (by omega) hi'.2
  refine ⟨fun q => ?_, fun q => ⟨m, h.ha, h.ha', by omega, by have := h.hb'; omega⟩⟩
  refine m.finBA (by simp only [Array.toList_append, extract_low, Array.toList_reverse]) ?_
  rw [q]
  exact first_one W h.ha'
end
end Mine

set_option autoImplicit false
namespace Mine
open PySem PySem.W PySem.Calls PySem.Spec PyProof.Rows

def mergeHi' : Array Keyed → Array Keyed → StateT SortSt Sem (Array Keyed) := sortPriv% PySem.Builtin.mergeHi
theorem mergeHi'_eq (a b : Array Keyed) : mergeHi' a b = (do
  rule "list.sort.merge-hi"
  let total := a.size + b.size
  let done (out : Array Keyed) (na nb : Nat) := a.extract 0 na ++ b.extract 0 nb ++ out.reverse
  let firstOfB (out : Array Keyed) (na nb : Nat) := b.extract 0 nb ++ a.extract 0 na ++ out.reverse
  let mut na := a.size - 1
  let mut nb := b.size
  let mut out : Array Keyed := #[← elem' a na]
  if na == 0 then return done out na nb
  if nb == 1 then return firstOfB out na nb
  let mut minGallop := gallopOf (← get)
  for _ in [0:total] do
    let mut acount := 0
    let mut bcount := 0
    for _ in [0:total] do
      let some aWins ← lt' (← elem' b (nb - 1)) (← elem' a (na - 1)) | return done out na nb
      if aWins then
        na := na - 1; out := out.push (← elem' a na); acount := acount + 1; bcount := 0
        if na == 0 then return done out na nb
        if acount ≥ minGallop then break
      else
        nb := nb - 1; out := out.push (← elem' b nb); bcount := bcount + 1; acount := 0
        if nb == 1 then return firstOfB out na nb
        if bcount ≥ minGallop then break
    rule "list.sort.gallop"
    minGallop := minGallop + 1
    for _ in [0:total] do
      if minGallop > 1 then minGallop := minGallop - 1
      setMinGallop' minGallop
      let some at_ ← gallop' false (← elem' b (nb - 1)) a 0 na (na - 1) | return done out na nb
      let k := na - at_
      acount := k
      if k > 0 then
        out := out ++ (a.extract at_ na).reverse; na := at_
        if na == 0 then return done out na nb
      nb := nb - 1; out := out.push (← elem' b nb)
      if nb == 1 then return firstOfB out na nb
      let some at_ ← gallop' true (← elem' a (na - 1)) b 0 nb (nb - 1) | return done out na nb
      let k := nb - at_
      bcount := k
      if k > 0 then
        out := out ++ (b.extract at_ nb).reverse; nb := at_
        if nb == 1 then return firstOfB out na nb
        if nb == 0 then return done out na nb
      na := na - 1; out := out.push (← elem' a na)
      if na == 0 then return done out na nb
      if acount < 7 && bcount < 7 then break
    minGallop := minGallop + 1
    setMinGallop' minGallop
  unsupported "internal:list.sort.merge-bound") := rfl
section
variable {prog : Program} {w : World} {A : Around} {E : Value → Shared → Prop} {s : Shared} {κ : SortKind} {key : Value → Int} {a₀ : Array Keyed} {st st' : SortSt}
theorem wpS_mergeHi (O : Ord prog w A s κ key a₀) (hk : kindOf st = κ) {a b : Array Keyed} (W : Two key a b) (hma : Mem a₀ a) (hmb : Mem a₀ b) (na : 1 ≤ a.size) (nb : 1 ≤ b.size) {Q : Array Keyed → SortSt → Prop}
    (h : ∀ r st', EqS st st' → Good key (a.toList ++ b.toList) r → Q r st') : wpS (model prog w) A E s (mergeHi' a b) Q st := by
  obtain ⟨x0, ex0, mx0⟩ := hma (a.size - 1) (by omega)
  have m0 : MH key (a.toList.take (a.size - 1)) (b.toList.take b.size) [x0] (a.toList ++ b.toList) := by
    have m : MH key (a.toList.take (a.size - 1) ++ [x0]) (b.toList.take b.size) [] (a.toList ++ b.toList) := ⟨by
      rw [← take_snoc ex0, show a.size - 1 + 1 = a.size by omega]
      rw [List.take_of_length_le (by simp), List.take_of_length_le (by simp)]
      simp, by simp, by simp⟩
    refine m.takeA (A2 := [x0]) (by simp) fun z hz y hy => ?_
    rw [List.mem_singleton.mp hz]
    unfold kle
    rw [← kf_at (key := key) ex0]
    rcases hy with hy | hy
    · obtain ⟨j, j1, j2, ej⟩ := mem_take' hy
      rw [← kf_at (key := key) ej]
      exact W.sa j _ (Nat.zero_le _) (by omega) (by omega)
    · obtain ⟨j, j1, j2, ej⟩ := mem_take' hy
      rw [← kf_at (key := key) ej]
      exact Int.le_of_lt (W.last j j2)
  rw [mergeHi'_eq]
  refine wpS_bind (wpS_lift (wpAny_rule ⟨rfl, ?_⟩))
  dsimp only
  refine wpS_bind (wpS_elem ex0 ?_)
  by_cases n1 : a.size - 1 = 0
  · rw [if_pos (by simpa using n1)]
    refine wpS_pure (h _ st (.refl _) (m0.finAB (by simp only [Array.toList_append, extract_low, Array.toList_reverse]) ?_))
    rw [n1, List.take_zero, List.nil_append]
    exact (srt_list W.sb).sublist (List.take_sublist _ _)
  rw [if_neg (by simpa using n1)]
  by_cases n2 : b.size = 1
  · rw [if_pos (by simpa using n2)]
    refine wpS_pure (h _ st (.refl _) (m0.finBA (by simp only [Array.toList_append, extract_low, Array.toList_reverse]) ?_))
    rw [n2]
    exact first_one W (by omega)
  rw [if_neg (by simpa using n2)]
  refine wpS_bind (wpS_get ?_)
  have I0 : Hi key a b #[x0] (a.size - 1) b.size := ⟨m0, by omega, by omega, by omega, Nat.le_refl _⟩
  clear na nb
  refine wpS_bind (wpS_mono (wpS_forRange (I := fun x c st₁ => EqS st st₁ ∧ ∃ out na nb mg, c = (none, na, nb, out, mg) ∧ Hi key a b out na nb ∧ x + na + nb ≤ a.size + b.size)
    (Q := fun c st₁ => EqS st st₁ ∧ ∃ r c', c = (some r, c') ∧ Good key (a.toList ++ b.toList) r) ?step ?fin ?init) ?post)
  case init => exact ⟨.refl _, _, _, _, _, rfl, I0, by omega⟩
  case fin =>
    rintro c st₁ ⟨e, out, na, nb, mg, rfl, hI, hx⟩
    have := hI.ha
    omega
  case post =>
    rintro c st₁ ⟨e, r, c', rfl, G⟩
    exact wpS_pure (h r st₁ e G)
  case step =>
    rintro x c st₁ _ hx ⟨e, out, na, nb, mg, rfl, hI, hx'⟩
    dsimp only
    refine wpS_bind (wpS_mono (wpS_forRange (I := fun y c st₂ => st₂ = st₁ ∧ ∃ out na nb ac bc, c = (none, na, nb, out, ac, bc) ∧ Hi key a b out na nb ∧ x + y + na + nb ≤ a.size + b.size)
      (Q := fun c st₂ => st₂ = st₁ ∧ ((∃ out na nb ac bc, c = (none, na, nb, out, ac, bc) ∧ Hi key a b out na nb ∧ x + 1 + na + nb ≤ a.size + b.size) ∨ ∃ r c', c = (some r, c') ∧ Good key (a.toList ++ b.toList) r)) ?step1 ?fin1 ?init1) ?post1)
    case init1 => exact ⟨rfl, _, _, _, _, _, rfl, hI, by omega⟩
    case fin1 =>
      rintro c st₂ ⟨rfl, out, na, nb, ac, bc, rfl, hI, hy⟩
      have := hI.ha
      omega
    case step1 =>
      rintro y c st₂ _ hy ⟨rfl, out, na, nb, ac, bc, rfl, hI, hy'⟩
      dsimp only
      have ha := hI.ha
      have ha' := hI.ha'
      have hb := hI.hb
      have hb' := hI.hb'
      obtain ⟨v, ev, mv⟩ := hmb (nb - 1) (by omega)
      obtain ⟨u, eu, mu⟩ := hma (na - 1) (by omega)
      refine wpS_bind (wpS_elem ev (wpS_bind (wpS_elem eu (wpS_bind (wpS_lt O (e.kind.trans hk) mv mu ?_)))))
      rw [← kf_at (key := key) ev, ← kf_at (key := key) eu]
      by_cases z : kf key b (nb - 1) < kf key a (na - 1)
      · rw [decide_eq_true z]
        simp only [if_true]
        refine wpS_bind (wpS_elem eu ?_)
        obtain ⟨p1, p2⟩ := hI.pushA W eu (Int.le_of_lt z)
        by_cases q : na - 1 = 0
        · rw [if_pos (by simpa using q)]
          exact wpS_pure ⟨rfl, .inr ⟨_, _, rfl, p1 q⟩⟩
        rw [if_neg (by simpa using q)]
        have hI := p2 q
        split
        · exact wpS_pure ⟨rfl, .inl ⟨_, _, _, _, _, rfl, hI, by omega⟩⟩
        · exact wpS_pure ⟨rfl, _, _, _, _, _, rfl, hI, by omega⟩
      · rw [decide_eq_false z]
        simp only [Bool.false_eq_true, if_false]
        refine wpS_bind (wpS_elem ev ?_)
        obtain ⟨p1, p2⟩ := hI.pushB W ev (by omega)
        by_cases q : nb - 1 = 1
        · rw [if_pos (by simpa using q)]
          exact wpS_pure ⟨rfl, .inr ⟨_, _, rfl, p1 q⟩⟩
        rw [if_neg (by simpa using q)]
        have hI := p2 q
        split
        · exact wpS_pure ⟨rfl, .inl ⟨_, _, _, _, _, rfl, hI, by omega⟩⟩
        · exact wpS_pure ⟨rfl, _, _, _, _, _, rfl, hI, by omega⟩
    case post1 =>
      rintro c st₂ ⟨rfl, (⟨out, na, nb, ac, bc, rfl, hI, hy⟩ | ⟨r, ⟨na, nb, out, ac, bc⟩, rfl, G⟩)⟩
      rotate_left
      · exact wpS_pure ⟨e, r, _, rfl, G⟩
      dsimp only
      refine wpS_bind (wpS_lift (wpAny_rule ⟨rfl, ?_⟩))
      refine wpS_bind (wpS_mono (wpS_forRange (I := fun y c st₃ => EqS st st₃ ∧ ∃ out na nb mg ac bc, c = (none, na, nb, out, mg, ac, bc) ∧ Hi key a b out na nb ∧ x + 1 + na + nb ≤ a.size + b.size)
        (Q := fun c st₃ => EqS st st₃ ∧ ((∃ out na nb mg ac bc, c = (none, na, nb, out, mg, ac, bc) ∧ Hi key a b out na nb ∧ x + 1 + na + nb ≤ a.size + b.size) ∨ ∃ r c', Good key (a.toList ++ b.toList) r ∧ c = (some r, c'))) ?step2 ?fin2 ?init2) ?post2)
      case init2 => exact ⟨e, _, _, _, _, _, _, rfl, hI, by omega⟩
      case fin2 => exact fun c st₃ hh => ⟨hh.1, .inl hh.2⟩
      case post2 =>
        rintro c st₃ ⟨e3, (⟨out, na, nb, mg, ac, bc, rfl, hI, hy⟩ | ⟨r, ⟨na, nb, out, mg, ac, bc⟩, G, rfl⟩)⟩
        rotate_left
        · exact wpS_pure ⟨e3, r, _, rfl, G⟩
        dsimp only
        refine wpS_bind (wpS_setG e3 fun st₄ e4 => ?_)
        exact wpS_pure ⟨e4, _, _, _, _, rfl, hI, by omega⟩
      case step2 =>
        clear hI hy hx' out na nb
        rintro y c st₃ _ hy ⟨e1, out, na, nb, mg, ac, bc, rfl, hI, hy'⟩
        dsimp only
        apply cut2
        case h1 =>
          intro key₂
          by_cases g1 : mg > 1
          · rw [if_pos g1]; generalize mg - 1 = g; revert g; exact key₂
          · rw [if_neg g1]; generalize mg = g; revert g; exact key₂
        intro g
        refine wpS_bind (wpS_setG e1 fun st₂ e2 => ?_)
        obtain ⟨y, ey, my⟩ := hmb (nb - 1) (by have := hI.hb; have := hI.hb'; omega)
        refine wpS_bind (wpS_elem ey ?_)
        refine wpS_bind (wpS_gallop O (e2.kind.trans hk) my (fun i hi => hma _ (by have := hI.ha'; omega)) (by have := hI.ha; omega) (fun i j h1 h2 => W.sa _ _ (Nat.zero_le _) (by omega) (by have := hI.ha'; omega)) fun k k1 k2 k3 => ?_)
        rw [← kf_at (key := key) ey] at k2 k3
        simp only [Nat.zero_add] at k2 k3
        dsimp only
        generalize hnk : na - k = nk
        apply cut2
        case h1 =>
          by_cases gk : nk > 0
          · rw [if_pos gk]
            obtain ⟨p1, p2⟩ := hI.manyA W k1 fun i h1 h2 => by have := k3 i h1 h2; simp [bey] at this; omega
            by_cases q : k = 0
            · rw [if_pos (by simpa using q)]
              exact fun _ => wpS_pure ⟨e2, .inr ⟨_, _, p1 q, rfl⟩⟩
            rw [if_neg (by simpa using q)]
            have hP : Hi key a b (out ++ (a.extract k na).reverse) k nb ∧ kf key a (k - 1) ≤ kf key b (nb - 1) ∧ x + 1 + k + nb ≤ a.size + b.size := ⟨p2 q, by have := k2 (k - 1) (by omega); simp [bey] at this; omega, by omega⟩
            intro key₃
            revert hP
            generalize out ++ (a.extract k na).reverse = o1
            generalize k = i1
            revert o1 i1
            exact key₃
          · rw [if_neg gk]
            have : k = na := by omega
            have hP : Hi key a b out na nb ∧ kf key a (na - 1) ≤ kf key b (nb - 1) ∧ x + 1 + na + nb ≤ a.size + b.size := ⟨hI, by have := hI.ha; have := k2 (na - 1) (by omega); simp [bey] at this; omega, hy'⟩
            intro key₃
            revert hP
            generalize out = o1
            generalize na = i1
            revert o1 i1
            exact key₃
        clear k1 k2 k3 hy' hI
        intro out na hP
        obtain ⟨hI, hle, hy'⟩ := hP
        refine wpS_bind (wpS_elem ey ?_)
        obtain ⟨p1, p2⟩ := hI.pushB W ey hle
        by_cases q : nb - 1 = 1
        · rw [if_pos (by simpa using q)]
          exact wpS_pure ⟨e2, .inr ⟨_, _, p1 q, rfl⟩⟩
        rw [if_neg (by simpa using q)]
        have hI := p2 q
        clear p1 p2
        have hy' : x + 1 + na + (nb - 1) ≤ a.size + b.size := by omega
        generalize out.push y = o2 at hI ⊢
        generalize nb - 1 = jb at hI hy' ⊢
        obtain ⟨u, eu, mu⟩ := hma (na - 1) (by have := hI.ha; have := hI.ha'; omega)
        refine wpS_bind (wpS_elem eu ?_)
        refine wpS_bind (wpS_gallop O (e2.kind.trans hk) mu (fun i hi => hmb _ (by have := hI.hb'; omega)) (by have := hI.hb; omega) (fun i j h1 h2 => W.sb _ _ (Nat.zero_le _) (by omega) (by have := hI.hb'; omega)) fun k₂ k₂1 k₂2 k₂3 => ?_)
        rw [← kf_at (key := key) eu] at k₂2 k₂3
        simp only [Nat.zero_add] at k₂2 k₂3
        dsimp only
        have k0 : 0 < k₂ := by
          rcases Nat.eq_zero_or_pos k₂ with z | z
          · have z1 := k₂3 0 (by omega) (by have := hI.hb; omega)
            have z2 := W.first (na - 1) (by have := hI.ha; have := hI.ha'; omega)
            simp [bey] at z1
            omega
          · exact z
        generalize hnk₂ : jb - k₂ = nk₂
        apply cut2
        case h1 =>
          by_cases gk : nk₂ > 0
          · rw [if_pos gk]
            obtain ⟨p1, p2⟩ := hI.manyB W k₂1 k0 fun i h1 h2 => by have := k₂3 i h1 h2; simp [bey] at this; omega
            by_cases q : k₂ = 1
            · rw [if_pos (by simpa using q)]
              exact fun _ => wpS_pure ⟨e2, .inr ⟨_, _, p1 q, rfl⟩⟩
            rw [if_neg (by simpa using q), if_neg (by simp; omega)]
            have hP : Hi key a b (o2 ++ (b.extract k₂ jb).reverse) na k₂ ∧ kf key b (k₂ - 1) ≤ kf key a (na - 1) ∧ x + 1 + na + k₂ ≤ a.size + b.size := ⟨p2 q, by have := k₂2 (k₂ - 1) (by omega); simp [bey] at this; omega, by omega⟩
            intro key₃
            revert hP
            generalize o2 ++ (b.extract k₂ jb).reverse = o1
            generalize k₂ = i1
            revert o1 i1
            exact key₃
          · rw [if_neg gk]
            have : k₂ = jb := by omega
            have hP : Hi key a b o2 na jb ∧ kf key b (jb - 1) ≤ kf key a (na - 1) ∧ x + 1 + na + jb ≤ a.size + b.size := ⟨hI, by have := hI.hb; have := k₂2 (jb - 1) (by omega); simp [bey] at this; omega, hy'⟩
            intro key₃
            revert hP
            generalize o2 = o1
            generalize jb = i1
            revert o1 i1
            exact key₃
        clear k₂1 k₂2 k₂3 k0 hy' hI hle
        intro out nb hP
        obtain ⟨hI, hle, hy'⟩ := hP
        refine wpS_bind (wpS_elem eu ?_)
        obtain ⟨p1, p2⟩ := hI.pushA W eu hle
        by_cases q : na - 1 = 0
        · rw [if_pos (by simpa using q)]
          exact wpS_pure ⟨e2, .inr ⟨_, _, p1 q, rfl⟩⟩
        rw [if_neg (by simpa using q)]
        have hI := p2 q
        split
        · exact wpS_pure ⟨e2, .inl ⟨_, _, _, _, _, _, rfl, hI, by omega⟩⟩
        · exact wpS_pure ⟨e2, _, _, _, _, _, _, rfl, hI, by omega⟩
end
end Mine

set_option autoImplicit false
namespace Mine
open PySem PySem.W PySem.Calls PySem.Spec PyProof.Rows

theorem mergeAt'_eq (i : Nat) : mergeAt' i = (do
  let s ← get
  let (some (sa, na, power), some (sb, nb, _)) := ((pendingOf s)[i]?, (pendingOf s)[i + 1]?) | unsupported "internal:list.sort.pending"
  set (setPending s (((pendingOf s).setIfInBounds i (sa, na + nb, power)).eraseIdxIfInBounds (i + 1)))
  let some k ← gallop' false (← elem' (arrOf s) sb) (arrOf s) sa na 0 | return false
  let (sa, na) := (sa + k, na - k)
  if na == 0 then return true
  let some nb ← gallop' true (← elem' (arrOf s) (sa + na - 1)) (arrOf s) sb nb (nb - 1) | return false
  if nb == 0 then return true
  let x := (arrOf s).extract sa sb
  let y := (arrOf s).extract sb (sb + nb)
  let merged ← if na ≤ nb then mergeLo' x y else mergeHi' x y
  modify fun s => setArr s (merged.toList.zipIdx.foldl (fun a (p, j) => a.setIfInBounds (sa + j) p) (arrOf s))
  return (failedOf (← get)).isNone) := rfl
theorem put_all : ∀ (m : List Keyed) (d sa : Nat) (arr : Array Keyed), sa + d + m.length ≤ arr.size → ((m.zipIdx d).foldl (fun a (p : Keyed × Nat) => a.setIfInBounds (sa + p.2) p.1) arr).toList = arr.toList.take (sa + d) ++ m ++ arr.toList.drop (sa + d + m.length)
  | [], d, sa, arr, h => by simp
  | x :: m, d, sa, arr, h => by
    rw [List.zipIdx_cons, List.foldl_cons]
    rw [List.length_cons] at h
    rw [put_all m (d + 1) sa _ (by rw [Array.size_setIfInBounds]; omega)]
    rw [Array.toList_setIfInBounds, List.take_set, List.drop_set_of_lt (by omega)]
    have hl : sa + d < arr.toList.length := by simp; omega
    rw [← Nat.add_assoc, List.take_add_one, List.getElem?_eq_getElem hl, Option.toList_some]
    rw [List.set_append_right _ _ (by simp; omega)]
    have : sa + d - (arr.toList.take (sa + d)).length = 0 := by simp; omega
    rw [this]
    simp only [List.set_cons_zero, List.append_assoc, List.cons_append, List.nil_append, List.length_cons]
    rw [show sa + d + 1 + m.length = sa + d + (m.length + 1) by omega]
section
variable {prog : Program} {w : World} {A : Around} {E : Value → Shared → Prop} {s : Shared} {κ : SortKind} {key : Value → Int} {a₀ : Array Keyed} {st : SortSt}
theorem srt_of {a : Array Keyed} (h : a.toList.Pairwise (kle key)) : Srt key a 0 a.size := by
  intro i j h1 h2 h3
  rcases Nat.lt_or_ge i j with q | q
  · have := List.pairwise_iff_getElem.mp h i j (by simp; omega) (by simpa using h3) q
    unfold kle at this
    rw [kf_at (getElem?_pos a i (by omega)), kf_at (getElem?_pos a j h3)]
    simpa using this
  · have : i = j := by omega
    subst this; exact Int.le_refl _
theorem srt_ext {a : Array Keyed} {lo hi : Nat} (S : Srt key a lo hi) (h : hi ≤ a.size) : Srt key (a.extract lo hi) 0 (a.extract lo hi).size := by
  intro i j h1 h2 h3
  rw [Array.size_extract] at h3
  have e : ∀ k, k < min hi a.size - lo → (a.extract lo hi)[k]? = a[lo + k]? := fun k hk => by
    rw [Array.getElem?_extract, if_pos hk]
  rw [kf_congr (e i (by omega)), kf_congr (e j (by omega))]
  exact S _ _ (by omega) (by omega) (by omega)
theorem kf_ext {a : Array Keyed} {lo hi k : Nat} (h : k < min hi a.size - lo) : kf key (a.extract lo hi) k = kf key a (lo + k) := kf_congr (by rw [Array.getElem?_extract, if_pos h])
theorem mem_slice {a : Array Keyed} {lo hi : Nat} {y : Keyed} (h : y ∈ (a.extract lo hi).toList) : ∃ j, lo ≤ j ∧ j < hi ∧ j < a.size ∧ a[j]? = some y := by
  rw [extract_mid] at h
  obtain ⟨k, hk, e⟩ := List.mem_iff_getElem.mp h
  have hk' : lo + k < hi ∧ lo + k < a.size := by simp at hk; omega
  exact ⟨lo + k, by omega, hk'.1, hk'.2, by rw [getElem?_pos a (lo + k) hk'.2, ← e]; simp⟩
theorem split4 (l : List Keyed) {k n m : Nat} (h1 : k ≤ n) (h2 : n ≤ m) : l = l.take k ++ (l.take n).drop k ++ (l.take m).drop n ++ l.drop m := by
  have e1 : l.take n = l.take k ++ (l.take n).drop k := by
    have := List.take_append_drop k (l.take n)
    rw [List.take_take, Nat.min_eq_left h1] at this
    exact this.symm
  have e2 : l.take m = l.take n ++ (l.take m).drop n := by
    have := List.take_append_drop n (l.take m)
    rw [List.take_take, Nat.min_eq_left h2] at this
    exact this.symm
  rw [← e1, ← e2, List.take_append_drop]
theorem join_ok {arr r : Array Keyed} {k n1 nb : Nat} (hk : k ≤ n1) (hs : n1 + nb ≤ arr.size) (hp : r.toList.Perm ((arr.extract k n1).toList ++ (arr.extract n1 (n1 + nb)).toList)) (hr : r.toList.Pairwise (kle key))
    (S1 : Srt key arr 0 n1) (S2 : Srt key arr n1 arr.size) (g1 : ∀ i, i < k → kf key arr i ≤ kf key arr n1) (g2 : ∀ j, n1 + nb ≤ j → j < arr.size → kf key arr (n1 - 1) ≤ kf key arr j) (n0 : 0 < nb) (k0 : k < n1) :
    ((r.toList.zipIdx.foldl (fun a (p : Keyed × Nat) => a.setIfInBounds (0 + k + p.2) p.1) arr).Perm arr) ∧ Srt key (r.toList.zipIdx.foldl (fun a (p : Keyed × Nat) => a.setIfInBounds (0 + k + p.2) p.1) arr) 0 arr.size := by
  have hl : r.toList.length = n1 - k + nb := by
    rw [hp.length_eq, List.length_append, Array.length_toList, Array.length_toList, Array.size_extract, Array.size_extract]
    omega
  have e := put_all r.toList 0 (0 + k) arr (by omega)
  rw [hl, Nat.add_zero, Nat.zero_add, show k + (n1 - k + nb) = n1 + nb by omega] at e
  rw [Nat.zero_add]
  generalize r.toList.zipIdx.foldl (fun a (p : Keyed × Nat) => a.setIfInBounds (k + p.2) p.1) arr = arr' at e ⊢
  have sp := split4 arr.toList hk (Nat.le_add_right n1 nb)
  rw [← extract_mid, ← extract_mid] at sp
  have pm : arr'.toList.Perm arr.toList := by
    rw [e]
    conv => rhs; rw [sp]
    refine List.Perm.append_right _ ?_
    rw [List.append_assoc]
    exact List.Perm.append_left _ hp
  have hsz : arr'.size = arr.size := by rw [← Array.length_toList, pm.length_eq, Array.length_toList]
  refine ⟨Array.perm_iff_toList_perm.mpr pm, ?_⟩
  rw [← hsz]
  refine srt_of ?_
  rw [e]
  have inR : ∀ y ∈ r.toList, (∃ j, k ≤ j ∧ j < n1 ∧ j < arr.size ∧ arr[j]? = some y) ∨ ∃ j, n1 ≤ j ∧ j < n1 + nb ∧ j < arr.size ∧ arr[j]? = some y := fun y hy => by
    rcases List.mem_append.mp (hp.mem_iff.mp hy) with q | q
    · exact .inl (mem_slice q)
    · exact .inr (mem_slice q)
  have sP : (arr.toList.take k).Pairwise (kle key) := by
    rw [← extract_low]
    refine srt_list ?_
    exact srt_ext (fun i j h1 h2 h3 => S1 i j h1 h2 (by omega)) (by omega)
  have sD : (arr.toList.drop (n1 + nb)).Pairwise (kle key) := by
    rw [← extract_all]
    refine srt_list ?_
    exact srt_ext (fun i j h1 h2 h3 => S2 i j (by omega) h2 h3) (Nat.le_refl _)
  refine List.pairwise_append.mpr ⟨List.pairwise_append.mpr ⟨sP, hr, fun x hx y hy => ?_⟩, sD, fun x hx y hy => ?_⟩
  · obtain ⟨i, i1, i2, ei⟩ := mem_take' hx
    unfold kle
    rw [← kf_at (key := key) ei]
    rcases inR y hy with ⟨j, j1, j2, j3, ej⟩ | ⟨j, j1, j2, j3, ej⟩
    · rw [← kf_at (key := key) ej]
      exact S1 i j (Nat.zero_le _) (by omega) j2
    · rw [← kf_at (key := key) ej]
      exact Int.le_trans (g1 i i1) (S2 n1 j (Nat.le_refl _) j1 j3)
  · obtain ⟨j, j1, j2, ej⟩ := mem_drop' hy
    unfold kle
    rw [← kf_at (key := key) ej]
    rcases List.mem_append.mp hx with hx | hx
    · obtain ⟨i, i1, i2, ei⟩ := mem_take' hx
      rw [← kf_at (key := key) ei]
      exact Int.le_trans (g1 i i1) (S2 n1 j (Nat.le_refl _) (by omega) j2)
    · rcases inR x hx with ⟨i, i1, i2, i3, ei⟩ | ⟨i, i1, i2, i3, ei⟩
      · rw [← kf_at (key := key) ei]
        exact Int.le_trans (S1 i (n1 - 1) (Nat.zero_le _) (by omega) (by omega)) (g2 j j1 j2)
      · rw [← kf_at (key := key) ei]
        exact S2 i j i1 (by omega) j2
theorem wpS_mergeAt (O : Ord prog w A s κ key a₀) (B : SB κ a₀ st) {n1 n2 pw z : Nat} (hp : pendingOf st = #[(0, n1, pw), (n1, n2, z)]) (h1 : 0 < n1) (h2 : 0 < n2) (hn : n1 + n2 = a₀.size) (S1 : Srt key (arrOf st) 0 n1) (S2 : Srt key (arrOf st) n1 a₀.size) {Q : Bool → SortSt → Prop}
    (h : ∀ st', SB κ a₀ st' → pendingOf st' = #[(0, n1 + n2, pw)] → Srt key (arrOf st') 0 a₀.size → Q true st') : wpS (model prog w) A E s (mergeAt' 0) Q st := by
  rw [mergeAt'_eq]
  refine wpS_bind (wpS_get ?_)
  rw [hp]
  have e0 : (#[(0, n1, pw), (n1, n2, z)] : Array (Nat × Nat × Nat))[0]? = some (0, n1, pw) := rfl
  have e1 : (#[(0, n1, pw), (n1, n2, z)] : Array (Nat × Nat × Nat))[0 + 1]? = some (n1, n2, z) := rfl
  rw [e0, e1]
  dsimp only
  have hset : ∀ (st₁ : SortSt) {R : PUnit → SortSt → Prop}, R ⟨⟩ st₁ → wpS (model prog w) A E s (set st₁ : StateT SortSt Sem PUnit) R st := fun st₁ R hR => by
    unfold wpS
    rw [StateT.run_set]
    exact wpAny_pure ⟨rfl, hR⟩
  refine wpS_bind (hset _ ?_)
  have hpd : (#[(0, n1, pw), (n1, n2, z)].setIfInBounds 0 (0, n1 + n2, pw)).eraseIdxIfInBounds (0 + 1) = #[(0, n1 + n2, pw)] := by
    apply Array.toList_inj.mp
    simp [Array.eraseIdxIfInBounds]
  rw [hpd]
  have B1 : SB κ a₀ (setPending st #[(0, n1 + n2, pw)]) := ⟨B.perm, B.failed, B.kind⟩
  have hsz := B.size
  obtain ⟨p, ep, mp⟩ := B.at (i := n1) (by omega)
  have mem : ∀ i, i < a₀.size → ∃ x, (arrOf st)[i]? = some x ∧ x ∈ a₀.toList := fun i hi => B.at hi
  refine wpS_bind (wpS_elem ep ?_)
  refine wpS_bind (wpS_gallop O B1.kind mp (fun i hi => mem _ (by omega)) h1 (fun i j h1 h2 => S1 _ _ (Nat.zero_le _) (by omega) (by omega)) fun k k1 k2 k3 => ?_)
  rw [← kf_at (key := key) ep] at k2 k3
  simp only [Nat.zero_add] at k2 k3
  dsimp only
  have g1 : ∀ i, i < k → kf key (arrOf st) i ≤ kf key (arrOf st) n1 := fun i hi => by have := k2 i hi; simp [bey] at this; omega
  by_cases kn : n1 - k = 0
  · rw [if_pos (by simpa using kn)]
    refine wpS_pure (h _ B1 rfl fun i j i1 i2 i3 => ?_)
    show kf key (arrOf st) i ≤ kf key (arrOf st) j
    rcases Nat.lt_or_ge j n1 with q | q
    · exact S1 i j i1 i2 q
    · rcases Nat.lt_or_ge i n1 with q' | q'
      · exact Int.le_trans (g1 i (by omega)) (S2 n1 j (Nat.le_refl _) q i3)
      · exact S2 i j q' i2 i3
  rw [if_neg (by simpa using kn)]
  have kl : k < n1 := by omega
  obtain ⟨p', ep', mp'⟩ := B.at (i := n1 - 1) (by omega)
  rw [show 0 + k + (n1 - k) - 1 = n1 - 1 by omega]
  refine wpS_bind (wpS_elem ep' ?_)
  refine wpS_bind (wpS_gallop O B1.kind mp' (fun i hi => mem _ (by omega)) (by omega) (fun i j h1 h2 => S2 _ _ (by omega) (by omega) (by omega)) fun nb nb1 nb2 nb3 => ?_)
  rw [← kf_at (key := key) ep'] at nb2 nb3
  dsimp only
  have lt0 : kf key (arrOf st) n1 < kf key (arrOf st) k := by have := k3 k (Nat.le_refl _) kl; simp [bey] at this; omega
  have lek : ∀ i, k ≤ i → i < n1 → kf key (arrOf st) n1 < kf key (arrOf st) i := fun i h1 h2 => by have := k3 i h1 h2; simp [bey] at this; omega
  have n0 : nb ≠ 0 := fun q => by
    have := nb3 0 (by omega) h2
    have := lek (n1 - 1) (by omega) (by omega)
    simp [bey] at *
    omega
  rw [if_neg (by simpa using n0)]
  have g2 : ∀ j, n1 + nb ≤ j → j < (arrOf st).size → kf key (arrOf st) (n1 - 1) ≤ kf key (arrOf st) j := fun j h1 h2 => by
    have := nb3 (j - n1) (by omega) (by omega)
    rw [show n1 + (j - n1) = j by omega] at this
    simp [bey] at this
    omega
  have hx : ((arrOf st).extract (0 + k) n1).size = n1 - k := by rw [Array.size_extract]; omega
  have hy : ((arrOf st).extract n1 (n1 + nb)).size = nb := by rw [Array.size_extract]; omega
  have W : Two key ((arrOf st).extract (0 + k) n1) ((arrOf st).extract n1 (n1 + nb)) := by
    refine ⟨srt_ext (fun i j h1 h2 h3 => S1 i j (Nat.zero_le _) h2 h3) (by omega), srt_ext (fun i j h1 h2 h3 => S2 i j h1 h2 (by omega)) (by omega), fun j hj => ?_, fun i hi => ?_⟩
    · rw [hx, kf_ext (by omega), kf_ext (by omega), show 0 + k + (n1 - k - 1) = n1 - 1 by omega]
      have := nb2 j (by omega)
      simp [bey] at this
      exact this
    · rw [kf_ext (by omega), kf_ext (by omega), Nat.add_zero]
      exact lek _ (by omega) (by omega)
  have mx : Mem a₀ ((arrOf st).extract (0 + k) n1) := fun i hi => by
    rw [Array.getElem?_extract, if_pos (by omega)]
    exact mem _ (by omega)
  have my : Mem a₀ ((arrOf st).extract n1 (n1 + nb)) := fun i hi => by
    rw [Array.getElem?_extract, if_pos (by omega)]
    exact mem _ (by omega)
  have fin : ∀ (r : Array Keyed) (st' : SortSt), EqS (setPending st #[(0, n1 + n2, pw)]) st' → Good key (((arrOf st).extract (0 + k) n1).toList ++ ((arrOf st).extract n1 (n1 + nb)).toList) r →
      wpS (model prog w) A E s (do
        modify fun s => setArr s (r.toList.zipIdx.foldl (fun a (x : Keyed × Nat) => a.setIfInBounds (0 + k + x.snd) x.fst) (arrOf s))
        let __do_lift ← get
        pure (failedOf __do_lift).isNone) Q st' := by
    intro r st' e G
    refine wpS_bind (wpS_modify (wpS_bind (wpS_get ?_)))
    have ea : arrOf st' = arrOf st := e.arr
    have ef : failedOf st' = none := e.failed.trans B.failed
    rw [ea]
    rw [Nat.zero_add] at G
    obtain ⟨j1, j2⟩ := join_ok (key := key) (r := r) (Nat.le_of_lt kl) (by omega) G.1 G.2 S1 (by rw [hsz]; exact S2) g1 g2 (by omega) kl
    show wpS _ _ _ _ (pure (failedOf st').isNone) Q _
    rw [ef]
    refine wpS_pure (h _ ⟨j1.trans B.perm, ef, e.kind.trans B.kind⟩ e.pend ?_)
    rw [← hsz]
    exact j2
  by_cases q : n1 - k ≤ nb
  · rw [if_pos q]
    exact wpS_bind (wpS_mergeLo O B1.kind W mx my (by omega) (by omega) fun r st' e G => fin r st' e G)
  · rw [if_neg q]
    exact wpS_bind (wpS_mergeHi O B1.kind W mx my (by omega) (by omega) fun r st' e G => fin r st' e G)
end
end Mine

set_option autoImplicit false
namespace Mine
open PySem PySem.W PySem.Calls PySem.Spec PyProof.Rows

section
variable {prog : Program} {w : World} {A : Around} {E : Value → Shared → Prop} {s : Shared} {κ : SortKind} {key : Value → Int} {a₀ : Array Keyed} {st : SortSt}
theorem minRun_ok {n : Nat} (h2 : 2 ≤ n) (h : n < 128) : n ≤ 2 * minRun' n n 0 ∧ minRun' n n 0 ≤ n := by
  obtain ⟨f, rfl⟩ : ∃ f, n = f + 1 + 1 := ⟨n - 2, by omega⟩
  rw [minRun'_succ]
  split
  · omega
  · rw [minRun'_succ, if_pos (by omega)]
    omega
theorem wpS_runs (O : Ord prog w A s κ key a₀) (B : SB κ a₀ st) (hp : pendingOf st = #[]) (h2 : 2 ≤ a₀.size) (h128 : a₀.size < 128) {Q : Unit → SortSt → Prop}
    (h : ∀ st', SB κ a₀ st' → Srt key (arrOf st') 0 a₀.size → Q () st') : wpS (model prog w) A E s sortRuns' Q st := by
  rw [sortRuns'_eq]
  refine wpS_bind (wpS_get ?_)
  dsimp only
  rw [B.size]
  obtain ⟨mr1, mr2⟩ := minRun_ok h2 h128
  generalize minRun' a₀.size a₀.size 0 = mr at mr1 mr2
  refine wpS_bind (wpS_mono (wpS_forRange
    (I := fun x c st' => SB κ a₀ st' ∧ ((x = 0 ∧ c = (none, 0) ∧ pendingOf st' = #[]) ∨ (∃ n1, (x = 1 ∨ n1 = a₀.size) ∧ c = (none, n1) ∧ pendingOf st' = #[(0, n1, 0)] ∧ mr ≤ n1 ∧ n1 ≤ a₀.size ∧ Srt key (arrOf st') 0 n1) ∨
      ∃ n1 pw, 0 < n1 ∧ n1 < a₀.size ∧ c = (none, a₀.size) ∧ pendingOf st' = #[(0, n1, pw), (n1, a₀.size - n1, 0)] ∧ Srt key (arrOf st') 0 n1 ∧ Srt key (arrOf st') n1 a₀.size))
    (Q := fun c st' => SB κ a₀ st' ∧ c.1 = none ∧ ((pendingOf st' = #[(0, a₀.size, 0)] ∧ Srt key (arrOf st') 0 a₀.size) ∨ ∃ n1 pw, 0 < n1 ∧ n1 < a₀.size ∧ pendingOf st' = #[(0, n1, pw), (n1, a₀.size - n1, 0)] ∧ Srt key (arrOf st') 0 n1 ∧ Srt key (arrOf st') n1 a₀.size)) ?step ?fin ?init) ?post)
  case init => exact ⟨B, .inl ⟨rfl, rfl, hp⟩⟩
  case fin =>
    rintro c st' ⟨B', (⟨hx, _⟩ | ⟨n1, hx, rfl, p1, _, _, S⟩ | ⟨n1, pw, q1, q2, rfl, q3, q4, q5⟩)⟩
    · omega
    · have : n1 = a₀.size := by omega
      subst this
      exact ⟨B', rfl, .inl ⟨p1, S⟩⟩
    · exact ⟨B', rfl, .inr ⟨n1, pw, q1, q2, q3, q4, q5⟩⟩
  case step =>
    rintro x c st' _ hx ⟨B', (⟨rfl, rfl, p0⟩ | ⟨n1, hx1, rfl, p1, m1, m2, S⟩ | ⟨n1, pw, q1, q2, rfl, q3, q4, q5⟩)⟩
    · dsimp only
      rw [if_neg (by omega)]
      refine wpS_bind (wpS_count O B' (by omega) (by omega) fun m st2 B2 L2 m1 m2 S2 => ?_)
      dsimp only
      simp only [Nat.sub_zero] at m2
      have hb2 : pendingOf st2 = #[] := L2.pend.trans p0
      by_cases g : m < mr
      · rw [if_pos g]
        refine wpS_bind (wpS_lift (wpAny_rule ⟨rfl, ?_⟩))
        simp only [show min (a₀.size - 0) mr = mr by omega]
        refine wpS_bind (wpS_binary O B2 (by omega) (by omega) S2 fun st3 B3 L3 S3 => ?_)
        simp only [Bool.not_true, Bool.false_eq_true, if_false]
        refine wpS_bind (wpS_get ?_)
        have hb3 : pendingOf st3 = #[] := L3.pend.trans hb2
        rw [show (pendingOf st3).back? = none by rw [hb3]; rfl]
        dsimp only
        refine wpS_bind (wpS_modify (wpS_pure ⟨⟨B3.perm, B3.failed, B3.kind⟩, .inr (.inl ⟨mr, .inl (by first | rfl | trivial), by rw [Nat.zero_add], ?_, Nat.le_refl _, mr2, by simpa using S3⟩)⟩))
        show (pendingOf st3).push _ = _
        rw [hb3]; rfl
      · rw [if_neg g]
        refine wpS_bind (wpS_get ?_)
        rw [show (pendingOf st2).back? = none by rw [hb2]; rfl]
        dsimp only
        refine wpS_bind (wpS_modify (wpS_pure ⟨⟨B2.perm, B2.failed, B2.kind⟩, .inr (.inl ⟨m, .inl rfl, by rw [Nat.zero_add], ?_, by omega, m2, by simpa using S2⟩)⟩))
        show (pendingOf st2).push _ = _
        rw [hb2]; rfl
    · dsimp only
      by_cases en : n1 = a₀.size
      · subst en
        rw [if_pos (Nat.le_refl _)]
        exact wpS_pure ⟨B', rfl, .inl ⟨p1, S⟩⟩
      rw [if_neg (by omega)]
      have low : ∀ (st₁ : SortSt), Left n1 st' st₁ → Srt key (arrOf st₁) 0 n1 := fun st₁ L i j h1 h2 h3 => by
        rw [kf_congr (L.low i (by omega)), kf_congr (L.low j h3)]
        exact S i j h1 h2 h3
      refine wpS_bind (wpS_count O B' (by omega) (by omega) fun m st2 B2 L2 k1 k2 S2 => ?_)
      dsimp only
      by_cases g : m < mr
      · rw [if_pos g]
        refine wpS_bind (wpS_lift (wpAny_rule ⟨rfl, ?_⟩))
        simp only [show min (a₀.size - n1) mr = a₀.size - n1 by omega]
        refine wpS_bind (wpS_binary O B2 (by omega) k2 S2 fun st3 B3 L3 S3 => ?_)
        simp only [Bool.not_true, Bool.false_eq_true, if_false]
        have L : Left n1 st' st3 := ⟨fun i hi => (L3.low i hi).trans (L2.low i hi), L3.pend.trans L2.pend⟩
        have hb3 : pendingOf st3 = #[(0, n1, 0)] := L.pend.trans p1
        refine wpS_bind (wpS_get ?_)
        rw [show (pendingOf st3).back? = some (0, n1, 0) by rw [hb3]; rfl]
        dsimp only
        refine wpS_bind (wpS_mono (wpS_forRange (I := fun y c st₄ => st₄ = st3 ∧ c = (none, ())) (Q := fun c st₄ => st₄ = st3 ∧ c = (none, ())) ?stepB (fun _ _ hh => hh) ⟨rfl, rfl⟩) ?postB)
        case stepB =>
          rintro y c st₄ _ _ ⟨rfl, rfl⟩
          refine wpS_bind (wpS_get ?_)
          rw [hb3]
          exact wpS_pure ⟨rfl, rfl⟩
        case postB =>
          rintro c st₄ ⟨rfl, rfl⟩
          dsimp only
          refine wpS_bind (wpS_modify (wpS_bind (wpS_modify (wpS_pure ⟨⟨B3.perm, B3.failed, B3.kind⟩, .inr (.inr ⟨n1, power' a₀.size (2 * 0 + n1) (2 * 0 + n1 + n1 + (a₀.size - n1)) a₀.size, by omega, by omega, ?_, ?_, low st₄ L, ?_⟩)⟩))))
          · congr 2
            omega
          · show ((pendingOf st₄).modify ((pendingOf st₄).size - 1) _).push _ = _
            rw [hb3]
            rfl
          · rw [show n1 + (a₀.size - n1) = a₀.size by omega] at S3
            exact S3
      · rw [if_neg g]
        have em : m = a₀.size - n1 := by omega
        subst em
        have L := L2
        have hb3 : pendingOf st2 = #[(0, n1, 0)] := L.pend.trans p1
        have B3 := B2
        have S3 := S2
        refine wpS_bind (wpS_get ?_)
        rw [show (pendingOf st2).back? = some (0, n1, 0) by rw [hb3]; rfl]
        dsimp only
        refine wpS_bind (wpS_mono (wpS_forRange (I := fun y c st₄ => st₄ = st2 ∧ c = (none, ())) (Q := fun c st₄ => st₄ = st2 ∧ c = (none, ())) ?stepC (fun _ _ hh => hh) ⟨rfl, rfl⟩) ?postC)
        case stepC =>
          rintro y c st₄ _ _ ⟨rfl, rfl⟩
          refine wpS_bind (wpS_get ?_)
          rw [hb3]
          exact wpS_pure ⟨rfl, rfl⟩
        case postC =>
          rintro c st₄ ⟨rfl, rfl⟩
          dsimp only
          refine wpS_bind (wpS_modify (wpS_bind (wpS_modify (wpS_pure ⟨⟨B3.perm, B3.failed, B3.kind⟩, .inr (.inr ⟨n1, power' a₀.size (2 * 0 + n1) (2 * 0 + n1 + n1 + (a₀.size - n1)) a₀.size, by omega, by omega, ?_, ?_, low st₄ L, ?_⟩)⟩))))
          · congr 2
            omega
          · show ((pendingOf st₄).modify ((pendingOf st₄).size - 1) _).push _ = _
            rw [hb3]
            rfl
          · rw [show n1 + (a₀.size - n1) = a₀.size by omega] at S3
            exact S3
    · dsimp only
      rw [if_pos (Nat.le_refl _)]
      exact wpS_pure ⟨B', rfl, .inr ⟨n1, pw, q1, q2, q3, q4, q5⟩⟩
  case post =>
    rintro ⟨c1, c2⟩ st' ⟨B', hc, or⟩
    dsimp only at hc
    subst hc
    dsimp only
    rcases or with ⟨p1, S⟩ | ⟨n1, pw, q1, q2, q3, q4, q5⟩
    · refine wpS_bind (wpS_mono (wpS_forRange (I := fun _ c st'' => st'' = st' ∧ c = (none, ())) (Q := fun c st'' => st'' = st' ∧ c = (none, ())) ?_ (fun _ _ hh => hh) ⟨rfl, rfl⟩) ?_)
      · rintro x c st'' _ _ ⟨rfl, rfl⟩
        refine wpS_bind (wpS_get ?_)
        rw [if_pos (by rw [p1]; exact Nat.le_refl 1)]
        exact wpS_pure ⟨rfl, rfl⟩
      · rintro c st'' ⟨rfl, rfl⟩
        exact wpS_pure (h _ B' S)
    · refine wpS_bind (wpS_mono (wpS_forRange (I := fun x c st'' => c = (none, ()) ∧ ((x = 0 ∧ st'' = st') ∨ (0 < x ∧ SB κ a₀ st'' ∧ pendingOf st'' = #[(0, n1 + (a₀.size - n1), pw)] ∧ Srt key (arrOf st'') 0 a₀.size)))
        (Q := fun c st'' => c = (none, ()) ∧ SB κ a₀ st'' ∧ Srt key (arrOf st'') 0 a₀.size) ?_ ?_ ⟨rfl, .inl ⟨rfl, rfl⟩⟩) ?_)
      · rintro x c st'' _ _ ⟨rfl, (⟨rfl, rfl⟩ | ⟨x0, B2, p2, S2⟩)⟩
        · refine wpS_bind (wpS_get ?_)
          rw [q3, if_neg (show ¬ (#[(0, n1, pw), (n1, a₀.size - n1, 0)] : Array (Nat × Nat × Nat)).size ≤ 1 from (by decide : ¬ (2 : Nat) ≤ 1))]
          show wpS _ _ _ _ (mergeAt' 0 >>= _) _ _
          refine wpS_bind (wpS_mergeAt O B' q3 q1 (by omega) (by omega) q4 q5 fun st2 B2 p2 S2 => ?_)
          simp only [Bool.not_true, Bool.false_eq_true, if_false]
          exact wpS_pure ⟨rfl, .inr ⟨by omega, B2, p2, S2⟩⟩
        · refine wpS_bind (wpS_get ?_)
          rw [if_pos (by rw [p2]; exact Nat.le_refl 1)]
          exact wpS_pure ⟨rfl, B2, S2⟩
      · rintro c st'' ⟨rfl, (⟨hx, _⟩ | ⟨_, B2, _, S2⟩)⟩
        · omega
        · exact ⟨rfl, B2, S2⟩
      · rintro c st'' ⟨rfl, B2, S2⟩
        exact wpS_pure (h _ B2 S2)
end
end Mine

set_option autoImplicit false
namespace Mine
open PySem PySem.W PySem.Calls PySem.Spec PyProof.Rows

/-! sorted, of a list of pairs -/
def pOf (h : Heap) : Value → Int × Int
  | .ref x => match h.get? x with
    | some o => match o.data with
      | .seq vs _ => match vs.toList with
        | [.int a _, .int b _] => (a, b)
        | _ => (0, 0)
      | _ => (0, 0)
    | none => (0, 0)
  | _ => (0, 0)
def pK (p : Int × Int) : Int := p.1 * 1000 + p.2
def PT (h : Heap) (vs : List Value) : Prop := ∀ v ∈ vs, ∃ x t t', v = .ref x ∧ h.get? x = some (tupObj [.int (pOf h v).1 t, .int (pOf h v).2 t'])
theorem PT.mk {h : Heap} {v : Value} {x : Addr} {a b : Int} {t t' : Tok} (e : v = .ref x) (g : h.get? x = some (tupObj [.int a t, .int b t'])) : pOf h v = (a, b) := by
  subst e
  show (match h.get? x with
    | some o => match o.data with
      | .seq vs _ => match vs.toList with
        | [.int a _, .int b _] => (a, b)
        | _ => (0, 0)
      | _ => (0, 0)
    | none => (0, 0)) = (a, b)
  rw [g]
theorem PT.keep {h h' : Heap} {vs : List Value} (T : PT h vs) (k : ∀ x xs, h.get? x = some (tupObj xs) → h'.get? x = some (tupObj xs)) : PT h' vs ∧ ∀ v ∈ vs, pOf h' v = pOf h v := by
  have e : ∀ v ∈ vs, pOf h' v = pOf h v := fun v hv => by
    obtain ⟨x, t, t', ev, g⟩ := T v hv
    exact PT.mk ev (k _ _ g)
  refine ⟨fun v hv => ?_, e⟩
  obtain ⟨x, t, t', ev, g⟩ := T v hv
  rw [e v hv]
  exact ⟨x, t, t', ev, k _ _ g⟩
section
variable {prog : Program} {w : World} {A : Around} {E : Value → Shared → Prop} {s : Shared}
theorem pairs_lt {x y : Addr} {a b c d : Int} {t t' u u' : Tok} (hx : s.heap.get? x = some (tupObj [.int a t, .int b t'])) (hy : s.heap.get? y = some (tupObj [.int c u, .int d u'])) (hb : 0 ≤ b ∧ b < 1000) (hd : 0 ≤ d ∧ d < 1000) {Q : Bool → Shared → Prop}
    (h : Q (decide (pK (a, b) < pK (c, d))) s) : wpAny (model prog w) A (keyLt' (tuples' true) (.ref x) (.ref y)) Q E s := by
  refine kat_lt hx rfl hy rfl ?_
  show KatLex prog w A true _ Q [(.int a t, .int c u), (.int b t', .int d u')] 0 s
  refine kat_cons (wpAny_eqBool_int ?_)
  unfold pK at h
  dsimp only at h
  by_cases e : a = c
  · subst e
    rw [show (a == a) = true by simp]
    refine kat_yes (kat_cons (wpAny_eqBool_int ?_))
    by_cases e' : b = d
    · subst e'
      rw [show (b == b) = true by simp]
      refine kat_yes (kat_nil ?_)
      rw [decide_eq_false (by omega)] at h
      exact h
    · rw [show (b == d) = false by simp [e']]
      refine kat_no (kat_one _ _ (lt_int ?_))
      show Q (decide (b < d)) s
      rw [show decide (b < d) = decide (a * 1000 + b < a * 1000 + d) by rw [decide_eq_decide]; omega]
      exact h
  · rw [show (a == c) = false by simp [e]]
    refine kat_no (oneLt_int ?_)
    rw [show decide (a < c) = decide (a * 1000 + b < c * 1000 + d) by rw [decide_eq_decide]; omega]
    exact h
theorem ord_pairs {vs : List Value} (T : PT s.heap vs) (hb : ∀ v ∈ vs, 0 ≤ (pOf s.heap v).2 ∧ (pOf s.heap v).2 < 1000) (nd : (vs.map (pOf s.heap)).Nodup) : Ord prog w A s (tuples' true) (fun v => pK (pOf s.heap v)) (pairsOf vs) where
  lt := fun p hp q hq Q E hQ => by
    have mp : p.1 ∈ vs := by
      unfold pairsOf at hp
      rw [Array.toList_zip] at hp
      exact (List.of_mem_zip (by simpa using hp)).1
    have mq : q.1 ∈ vs := by
      unfold pairsOf at hq
      rw [Array.toList_zip] at hq
      exact (List.of_mem_zip (by simpa using hq)).1
    obtain ⟨x, t, t', ex, gx⟩ := T _ mp
    obtain ⟨y, u, u', ey, gy⟩ := T _ mq
    have b1 := hb _ mp
    have b2 := hb _ mq
    rw [ex] at gx b1 hQ ⊢
    rw [ey] at gy b2 hQ ⊢
    exact pairs_lt gx gy b1 b2 hQ
  nd := by
    have e : ((pairsOf vs).toList.map fun p => pK (pOf s.heap p.1)) = (vs.map (pOf s.heap)).map pK := by
      unfold pairsOf
      rw [Array.toList_zip, List.map_map]
      simp [List.map_zip_eq_zipWith, Function.comp_def]
    rw [e]
    unfold List.Nodup at *
    rw [List.pairwise_map]
    refine nd.imp_of_mem fun {p q} hp hq ne e => ne ?_
    obtain ⟨v, hv, rfl⟩ := List.mem_map.mp hp
    obtain ⟨v', hv', rfl⟩ := List.mem_map.mp hq
    have h1 := hb v hv
    have h2 := hb v' hv'
    unfold pK at e
    exact Prod.ext (by omega) (by omega)
theorem katTups_of : ∀ {vs : List Value}, PT s.heap vs → ∃ fs, KatTups s.heap vs fs ∧ fs.length = vs.length ∧ ∀ v ∈ fs, Looks (model prog w) s.heap (typeOf v) (.type "int")
  | [], _ => ⟨[], trivial, rfl, fun v hv => by cases hv⟩
  | v :: vs, T => by
    obtain ⟨fs, h1, h2, h3⟩ := katTups_of (vs := vs) fun z hz => T z (.tail _ hz)
    obtain ⟨x, t, t', rfl, g⟩ := T v (.head _)
    refine ⟨.int (pOf s.heap (.ref x)).1 t :: fs, KatTups.cons g rfl rfl rfl h1, by simp [h2], fun z hz => ?_⟩
    rcases List.mem_cons.mp hz with rfl | hz
    · exact Looks.of_pure rfl
    · exact h3 z hz
theorem few {α : Type} : ∀ {vs : List α}, vs.length < 2 → ∀ (R : α → α → Prop), vs.Pairwise R
  | [], _, _ => .nil
  | [_], _, _ => by simp
  | _ :: _ :: _, h, _ => by simp at h; omega
/-- what a sort brings forth -/
structure Sorts (h : Heap) (vs : List Value) (out : Array Value) : Prop where
  perm : out.toList.Perm vs
  srt : out.toList.Pairwise fun u v => pK (pOf h u) ≤ pK (pOf h v)
theorem sort_tree {a : Addr} {vs : List Value} {n : Nat} {P : PySem.Fin → Shared → Prop} (ho : s.heap.get? a = some (seqObj "list" vs.toArray n)) (T : PT s.heap vs) (hb : ∀ v ∈ vs, 0 ≤ (pOf s.heap v).2 ∧ (pOf s.heap v).2 < 1000) (nd : (vs.map (pOf s.heap)).Nodup) (h128 : vs.length < 128)
    (h : ∀ out : Array Value, Sorts s.heap vs out → P (.done (.ret .none)) { s with heap := sortedHeap s.heap a vs out }) : wpAny (model prog w) A (Builtin.«list.sort» ⟨[.ref a], []⟩) P E s := by
  rw [list_sort_plain]
  have ha : a < s.heap.objs.size := Heap.lt_size ho
  refine wpAny_bind (listItems_at ho rfl ?_)
  refine wpAny_bind (listUpdate_at ho rfl ?_)
  obtain ⟨e1, ho1⟩ : ∃ e1, (s.heap.update a (Obj.mapSeq fun _ => #[])).get? a = some (seqObj "list" #[] e1) := ⟨_, get?_update_seq ho (fun _ => #[])⟩
  refine wpAny_bind (seqEpoch_at ho1 rfl ?_)
  refine wpAny_bind (wpAny_newTuple ?_)
  refine wpAny_bind (wpAny_newList ?_)
  refine wpAny_holding ?_
  have ho6 : (((s.heap.update a (Obj.mapSeq fun _ => #[])).push (seqObj "tuple" vs.toArray 0)).push (seqObj "list" #[] 0)).get? a = some (seqObj "list" #[] e1) := by
    rw [Heap.get?_push_ne _ _ _ (by rw [size_push', Heap.size_update]; exact Nat.ne_of_lt (Nat.lt_succ_of_lt ha)), Heap.get?_push_ne _ _ _ (by rw [Heap.size_update]; exact Nat.ne_of_lt ha)]
    exact ho1
  have kp : ∀ x xs, s.heap.get? x = some (tupObj xs) → (((s.heap.update a (Obj.mapSeq fun _ => #[])).push (seqObj "tuple" vs.toArray 0)).push (seqObj "list" #[] 0)).get? x = some (tupObj xs) := fun x xs hx => by
    have hne : x ≠ a := fun q => by
      subst q
      rw [ho] at hx
      injection hx with hx
      injection hx with hx
      injection hx with hx
      exact absurd hx (by decide)
    exact Heap.get?_push_of_some _ (Heap.get?_push_of_some _ (by rw [Heap.get?_update_ne _ _ _ _ hne]; exact hx))
  obtain ⟨T', eT⟩ := T.keep kp
  show wpAny (model prog w) A _ P E { s with heap := ((s.heap.update a (Obj.mapSeq fun _ => #[])).push (seqObj "tuple" vs.toArray 0)).push (seqObj "list" #[] 0) }
  dsimp only
  have hsz : vs.toArray.size = vs.length := by simp
  by_cases h2 : vs.toArray.size < 2
  · rw [if_pos h2, if_pos h2]
    refine wpAny_bind (wpAny_pure ?_)
    rw [StateT.run_pure]
    refine wpAny_bind (wpAny_pure ?_)
    dsimp only
    refine wpAny_bind (seqEpoch_at ho6 rfl ?_)
    refine wpAny_bind (listUpdate_at ho6 rfl ?_ (hsz2 := by rw [Array.size_map]; show (pairsOf vs).size ≤ _; rw [pairsOf_size, sizeLine_eq]; omega))
    simp only [bne_self_eq_false, Bool.false_eq_true, if_false]
    have eo : ((vs.toArray.zip vs.toArray).map fun (x : Value × Value) => x.snd) = vs.toArray := by
      apply Array.toList_inj.mp
      rw [Array.toList_map, Array.toList_zip]
      exact List.map_snd_zip (Nat.le_refl _)
    have so : Sorts s.heap vs ((vs.toArray.zip vs.toArray).map fun (x : Value × Value) => x.snd) := by
      rw [eo]
      refine ⟨List.Perm.refl _, ?_⟩
      exact few (by omega) _
    exact wpAny_pure (h _ so)
  · rw [if_neg h2, if_neg h2]
    obtain ⟨fs, f1, f2, f3⟩ := katTups_of (prog := prog) (w := w) (s := { s with heap := ((s.heap.update a (Obj.mapSeq fun _ => #[])).push (seqObj "tuple" vs.toArray 0)).push (seqObj "list" #[] 0) }) T'
    refine wpAny_bind (kat_kind f1 (by omega) f3 rfl ?_)
    have O : Ord prog w A { s with heap := ((s.heap.update a (Obj.mapSeq fun _ => #[])).push (seqObj "tuple" vs.toArray 0)).push (seqObj "list" #[] 0) } (tuples' true) (fun v => pK (pOf (((s.heap.update a (Obj.mapSeq fun _ => #[])).push (seqObj "tuple" vs.toArray 0)).push (seqObj "list" #[] 0)) v)) (pairsOf vs) :=
      ord_pairs T' (fun v hv => by have := hb v hv; rw [eT v hv]; exact this) (by rw [List.map_congr_left eT]; exact nd)
    refine wpAny_bind (wpAny_mono (wpS_runs (E := E) O (st := SortSt.mk' (tuples' true) (vs.toArray.zip vs.toArray) #[] 7 none) ⟨Array.Perm.refl _, rfl, rfl⟩ rfl (by rw [pairsOf_size]; omega) (by rw [pairsOf_size]; exact h128)
      (Q := fun _ st' => SB (tuples' true) (pairsOf vs) st' ∧ Srt (fun v => pK (pOf (((s.heap.update a (Obj.mapSeq fun _ => #[])).push (seqObj "tuple" vs.toArray 0)).push (seqObj "list" #[] 0)) v)) (arrOf st') 0 (pairsOf vs).size) fun st' a1 a2 => ⟨a1, a2⟩) ?_ fun _ _ e => e)
    rintro ⟨⟨⟩, st'⟩ s' ⟨rfl, B, S⟩
    dsimp only
    have hpl := Array.perm_iff_toList_perm.mp B.perm
    have eq2 : ∀ p ∈ (arrOf st').toList, p.1 = p.2 ∧ p.1 ∈ vs := fun p hp => by
      have := hpl.mem_iff.mp hp
      rw [pairsOf_toList] at this
      obtain ⟨i, hi, e⟩ := List.mem_iff_getElem.mp this
      rw [List.getElem_zip] at e
      rw [← e]
      exact ⟨rfl, List.getElem_mem _⟩
    have pm : ((arrOf st').map (·.2)).toList.Perm vs := by
      rw [Array.toList_map]
      have := hpl.map (·.2)
      rw [pairsOf_toList, List.map_snd_zip (Nat.le_refl _)] at this
      exact this
    refine wpAny_bind (seqEpoch_at ho6 rfl ?_)
    refine wpAny_bind (listUpdate_at ho6 rfl ?_ (hsz2 := by rw [← Array.length_toList, pm.length_eq, sizeLine_eq]; omega))
    rw [show failedOf st' = none from B.failed]
    simp only [bne_self_eq_false, Bool.false_eq_true, if_false]
    refine wpAny_pure (h _ ⟨pm, ?_⟩)
    rw [Array.toList_map, List.pairwise_map]
    have := srt_list (key := fun v => pK (pOf (((s.heap.update a (Obj.mapSeq fun _ => #[])).push (seqObj "tuple" vs.toArray 0)).push (seqObj "list" #[] 0)) v)) (a := arrOf st') (by rw [B.size]; exact S)
    refine this.imp_of_mem fun {p q} hp hq hl => ?_
    unfold kle at hl
    dsimp only at hl
    rw [eT _ (eq2 p hp).2, eT _ (eq2 q hq).2] at hl
    rw [← (eq2 p hp).1, ← (eq2 q hq).1]
    exact hl
theorem sorted_call {l : Addr} {vs : List Value} {Q : Value → Shared → Prop} (hl : s.heap.IsList l vs.toArray) (T : PT s.heap vs) (hb : ∀ v ∈ vs, 0 ≤ (pOf s.heap v).2 ∧ (pOf s.heap v).2 < 1000) (nd : (vs.map (pOf s.heap)).Nodup) (h128 : vs.length < 128)
    (h : ∀ out : Array Value, Sorts s.heap vs out → Q (.ref (s.heap.objs.size + 1)) { s with heap := sortedAll s.heap vs out }) : wpAny (model prog w) A (call (.builtin "sorted") [.ref l]) Q E s := by
  refine Calls.call_function_entry kind_sorted plain_sorted entry_sorted (args_sorted1 _) ?_
  unfold Builtin.«sorted»
  refine wpAny_bind (m := checkCount "sorted" 1 1 _) (wpAny_pure ?_)
  refine wpAny_bind (collect_list hl ?_)
  refine wpAny_bind (wpAny_newList ?_)
  have hsz : ((s.heap.push (seqObj "list" #[] 0)).update s.heap.objs.size (Obj.mapSeq (· ++ vs.toArray))).objs.size = s.heap.objs.size + 1 := by
    rw [Heap.size_update, size_push']
  have hoL : (((s.heap.push (seqObj "list" #[] 0)).update s.heap.objs.size (Obj.mapSeq (· ++ vs.toArray))).push (seqObj "list" vs.toArray 0)).get? (s.heap.objs.size + 1) = some (seqObj "list" vs.toArray 0) := by
    rw [← hsz]; exact Heap.get?_push_size _ rfl
  have kp : ∀ x xs, s.heap.get? x = some (tupObj xs) → (((s.heap.push (seqObj "list" #[] 0)).update s.heap.objs.size (Obj.mapSeq (· ++ vs.toArray))).push (seqObj "list" vs.toArray 0)).get? x = some (tupObj xs) := fun x xs hx => by
    have hlt := Heap.lt_size hx
    exact Heap.get?_push_of_some _ (by rw [Heap.get?_update_ne _ _ _ _ (Nat.ne_of_lt hlt)]; exact Heap.get?_push_of_some _ hx)
  obtain ⟨T', eT⟩ := T.keep kp
  show wpAny _ _ _ _ _ { s with heap := ((s.heap.push (seqObj "list" #[] 0)).update s.heap.objs.size (Obj.mapSeq (· ++ vs.toArray))).push (seqObj "list" vs.toArray 0) }
  rw [hsz]
  refine wpAny_bind (wpAny_holding (wpAny_call_entry slot_list_sort ⟨_, hoL, rfl⟩ entry_list_sort (sort_tree hoL T' (fun v hv => by have := hb v hv; rw [eT v hv]; exact this) (by rw [List.map_congr_left eT]; exact nd) h128 fun out so => ⟨_, rfl, ?_⟩) (args_list_sort _)))
  refine wpAny_pure ⟨_, rfl, h out ⟨so.perm, ?_⟩⟩
  refine so.srt.imp_of_mem fun {u v} hu hv hl => ?_
  rw [eT _ (so.perm.mem_iff.mp hu), eT _ (so.perm.mem_iff.mp hv)] at hl
  exact hl
end
section
variable {fx : Fx} {X : XP} {σ : St} {W : Wd} {s : Shared}
theorem vrs_pairs {h : Heap} (R : Rep fx σ W s) (eh : h = s.heap) : ∀ {ps : List (Int × Int)} {vs : List Value}, VRs W (ps.map pV) vs → PT h vs ∧ vs.map (pOf h) = ps ∧ ∀ v ∈ vs, VR W (pV (pOf h v)) v
  | [], _, .nil => ⟨(fun v hv => by cases hv), rfl, (fun v hv => by cases hv)⟩
  | p :: ps, _, .cons (x := u) r q => by
    obtain ⟨h1, h2, h3⟩ := vrs_pairs R eh q
    obtain ⟨x, t, t', rfl, g⟩ := pair_at R r
    have e : pOf h (.ref x) = p := PT.mk rfl (by rw [eh]; exact g)
    refine ⟨fun v hv => ?_, by rw [List.map_cons, e, h2], fun v hv => ?_⟩
    · rcases List.mem_cons.mp hv with rfl | hv
      · rw [e]; exact ⟨x, t, t', rfl, by rw [eh]; exact g⟩
      · exact h1 v hv
    · rcases List.mem_cons.mp hv with rfl | hv
      · rw [e]; exact r
      · exact h3 v hv
theorem vrs_of {f : Value → Int × Int} : ∀ {vs : List Value}, (∀ v ∈ vs, VR W (pV (f v)) v) → VRs W ((vs.map f).map pV) vs
  | [], _ => .nil
  | v :: vs, h => .cons (h v (.head _)) (vrs_of fun z hz => h z (.tail _ hz))
theorem sortedT {i : Nat} {ps : List (Int × Int)} {Q : V → St → Prop} (ho : σ.hp[i]? = some (.list (ps.map pV))) (hb : ∀ p ∈ ps, 0 ≤ p.2 ∧ p.2 < 1000) (nd : ps.Nodup) (h128 : ps.length < 128)
    (h : ∀ qs : List (Int × Int), qs.Perm ps → qs.Pairwise (fun p q => pK p ≤ pK q) → Q (.ref σ.hp.length) ⟨σ.loc, σ.hp ++ [.list (qs.map pV)]⟩) : CallT fx X (.builtin "sorted") [.ref i] σ Q := by
  intro W s us R r
  cases r with
  | cons r0 r =>
    cases r
    obtain ⟨a, vs, n, rfl, ha, hg, hv⟩ := R.list_at ho r0
    obtain ⟨T, em, hV⟩ := vrs_pairs R rfl hv
    have hmem : ∀ v ∈ vs, pOf s.heap v ∈ ps := fun v hv' => by rw [← em]; exact List.mem_map.mpr ⟨v, hv', rfl⟩
    refine sorted_call (listObj_isList hg) T (fun v hv' => hb _ (hmem v hv')) (by rw [em]; exact nd) (by have := congrArg List.length em; rw [List.length_map] at this; omega) fun out so => ?_
    obtain ⟨e, he⟩ := sortedAll_at s.heap vs out
    refine R.elim fun er g m news G F N C => ?_
    have F' : Fr g fx.L (sortedAll s.heap vs out) m := F.kept fun _ _ => sortedAll_old
    have N' : News g fx.L (sortedAll s.heap vs out) ((s.heap.objs.size + 1, seqObj "list" out e) :: news) := N.kept_cons F (fun _ _ => sortedAll_old) (Nat.le_succ _) he
    have eqs : (out.toList.map (pOf s.heap)).Perm ps := by rw [← em]; exact so.perm.map _
    obtain ⟨W', le, eD, R'⟩ := Rep.addN (o := .list ((out.toList.map (pOf s.heap)).map pV)) er G C F' N' (fun p hp q => by have := Heap.lt_size (N p hp).1; rw [q] at this; exact absurd this (Nat.not_lt.mpr (Nat.le_succ _))) fun W' le => by
      have : VRs W' ((out.toList.map (pOf s.heap)).map pV) out.toList := (vrs_of fun v hv' => hV v (so.perm.mem_iff.mp hv')).mono le
      exact .list e this
    exact ⟨W', _, _, le, R', .ref eD, h _ eqs (by rw [List.pairwise_map]; exact so.srt)⟩
end
section
variable {c : Cx} {X : XP} {l : Lo} {hp : List O} {K : KV}
theorem cb_sorted {i : Nat} {ps : List (Int × Int)} (e : hp[i]? = some (.list (ps.map pV))) (hb : ∀ p ∈ ps, 0 ≤ p.2 ∧ p.2 < 1000) (nd : ps.Nodup) (s : Side (ps.length < 128))
    (h : ∀ qs : List (Int × Int), qs.Perm ps → qs.Pairwise (fun p q => lx p q ∨ p = q) → K (.ref hp.length) l (hp ++ [.list (qs.map pV)])) : CB c X "sorted" [.ref i] l hp K := by
  unfold CB
  refine fun fx F => sortedT e hb nd s.h fun qs h1 h2 => h qs h1 (h2.imp_of_mem fun {p q} hp hq hl => ?_)
  have b1 := hb p (h1.mem_iff.mp hp)
  have b2 := hb q (h1.mem_iff.mp hq)
  unfold pK at hl
  unfold lx
  by_cases e : p = q
  · exact .inr e
  · refine .inl ?_
    by_cases e1 : p.1 = q.1
    · have : p.2 ≠ q.2 := fun e2 => e (Prod.ext e1 e2)
      omega
    · omega
end
end Mine

section
open PySem PySem.W PyProof.Rows
namespace Mine
set_option maxRecDepth 100000
set_option maxHeartbeats 8000000
open_top hd05 for PySem.Challenge.rw_uf050038_05
end Mine
end

set_option autoImplicit false
namespace Mine
open PySem PySem.W PySem.Calls PySem.Spec PyProof.Rows
set_option Elab.async false
set_option linter.unusedSimpArgs false
set_option linter.unusedVariables false

noncomputable abbrev pgo (prog : Program) (w : World) (p : Program) (loose : List Str) (mean : ExcName → Option Value) (mg mb : Str → Option Value) : Pg := ⟨prog, w, Mine.hd05.heap_39 w.params, p, loose, mean, mg, mb⟩
section
variable {prog : Program} {w : World} {p : Program} {loose : List Str} {mean : ExcName → Option Value} {mg mb : Str → Option Value} {lev : Nat} {ns : List Int}
set_option maxRecDepth 100000
set_option maxHeartbeats 8000000

theorem gl_len : (pgo prog w p loose mean mg mb).gl "len" = some (.builtin "len") := by kernel_rfl
theorem gl_isinstance : (pgo prog w p loose mean mg mb).gl "isinstance" = some (.builtin "isinstance") := by kernel_rfl
theorem gl_sorted : (pgo prog w p loose mean mg mb).gl "sorted" = some (.builtin "sorted") := by kernel_rfl
theorem gl_range : (pgo prog w p loose mean mg mb).gl "range" = some (.type "range") := by kernel_rfl
theorem gl_list : (pgo prog w p loose mean mg mb).gl "list" = some (.type "list") := by kernel_rfl
theorem gl_int : (pgo prog w p loose mean mg mb).gl "int" = some (.type "int") := by kernel_rfl
theorem gl_bool : (pgo prog w p loose mean mg mb).gl "bool" = some (.type "bool") := by kernel_rfl
theorem gl_slope : (pgo prog w p loose mean mg mb).gl "slope" = some (.ref 21) := by kernel_rfl
theorem gl_steeper : (pgo prog w p loose mean mg mb).gl "steeper" = some (.ref 28) := by kernel_rfl
theorem gl_seen_later : (pgo prog w p loose mean mg mb).gl "seen_later" = some (.ref 35) := by kernel_rfl
theorem gl_sights : (pgo prog w p loose mean mg mb).gl "sights" = some (.ref 42) := by kernel_rfl
theorem gl_whole : (pgo prog w p loose mean mg mb).gl "_law_whole" = some (.ref 49) := by kernel_rfl
theorem gl_cell_at : (pgo prog w p loose mean mg mb).gl "_law_cell_at" = some (.ref 56) := by kernel_rfl
theorem gl_height_by : (pgo prog w p loose mean mg mb).gl "_law_height_by" = some (.ref 63) := by kernel_rfl
theorem gl_land_by : (pgo prog w p loose mean mg mb).gl "_law_land_by" = some (.ref 68) := by kernel_rfl
local macro_rules | `(tactic| walk_at "gl") => `(tactic| (simp only [gl_len, gl_isinstance, gl_sorted, gl_range, gl_list, gl_int, gl_bool, gl_slope, gl_steeper, gl_seen_later, gl_sights, gl_whole, gl_cell_at, gl_height_by, gl_land_by]; first | done | rfl))
local macro_rules | `(tactic| walk_at "nm") => `(tactic| first | (with_reducible assumption) | (with_reducible exact setN_same) | ((with_reducible refine Eq.trans (setN_ne ?_) ?_); rfl; walk_at "nm") | ((with_reducible first | refine Eq.trans bind_c ?_ | refine Eq.trans bind_n ?_ | refine Eq.trans all_c ?_ | refine Eq.trans all_n ?_); walk_at "nm") | (refine Eq.trans (compLoc_eq (by decide +kernel)) ?_; walk_at "nm") | (simp only [setN, setAll, bindV, ofString_inj, String.reduceEq, if_true, if_false]; first | done | with_reducible rfl | with_reducible assumption))
local macro_rules | `(tactic| walk_at "hp") => `(tactic| first | with_reducible assumption | exact app_new | (refine app_get ?_; walk_at "hp") | with_reducible rfl | (simp; done) | rfl)

theorem slope_ok {X : Value → List O → Prop} {Q : V → List O → Prop} {hp : List O} {i : Nat} {xs : List Int} {a b : Int} (hi : hp[i]? = some (.list (xs.map .int))) (s : Side (0 ≤ a ∧ a < xs.length ∧ 0 ≤ b ∧ b < xs.length ∧ xs.length < 2 ^ 62))
    (h : Q (.tup [.int (g xs b - g xs a), .int (b - a)]) hp) : CallOK (pgo prog w p loose mean mg mb) (lev + 1) true ns 21 [.ref i, .int a, .int b] hp X Q := by
  refine fn_run (xs := ["land", "a", "b"]) (fnAt_of rfl (by kernel_rfl) (fn3 fun _ _ _ => rfl) (by decide) (by decide) rfl rfl rfl) rfl (by decide +kernel) fun c hc => ?_
  repeat' (first | (show E _ _ _ _ _ _; first | refine e_name (by walk_at "nm") ?_ | refine e_int ?_ | refine e_bin ?_ | refine e_sub rfl ?_ | refine e_cmp rfl ?_ | refine e_callF (by (with_reducible assumption)) (by walk_at "gl") (by kernel_rfl) (by kernel_rfl) rfl ?_ | refine e_callB (by (with_reducible assumption)) (by walk_at "gl") (by kernel_rfl) rfl ?_ | refine e_callT (by (with_reducible assumption)) (by walk_at "gl") (by kernel_rfl) rfl ?_ | refine e_glob (by (with_reducible assumption)) (by kernel_rfl) (by walk_at "gl") ?_ | refine e_tuple ?_ | refine e_boolop ?_ | refine e_list ?_ | refine e_none ?_ | refine e_append rfl rfl rfl ?_ | refine e_comp (by (with_reducible assumption)) (by kernel_rfl) rfl ?_) | (show Sz _ _; refine sz rfl ?_) | (show Lst _ _ _; refine lst_ref (by walk_at "hp") ?_) | (show Es _ _ _ _ _ _; first | refine es_cons rfl ?_ | refine es_nil ?_) | (show Ss _ _ _ _ _ _; first | refine ss_asg ?_ | refine ss_expr ?_ | refine ss_ret ?_ | refine ss_nil ?_) | (show S _ _ _ _ _ _; first | refine s_comp (by (with_reducible assumption)) (by kernel_rfl) (by kernel_rfl) rfl ?_ | refine s_asg (by (with_reducible assumption)) rfl (by kernel_rfl) ?_ | refine s_ret ?_ | refine s_expr rfl ?_) | (show Bin _ _ _ _ _ _ _ _; first | refine bin_add ?_ | refine bin_sub ?_ | refine bin_mul ?_ ?_ | refine bin_mod ?_ ?_ | refine bin_div ?_ ?_ | refine bin_pow18 ?_ | refine bin_pow14 ?_) | (show Cmp _ _ _ _ _ _ _ _; first | refine cmp_lt ?_ | refine cmp_gt ?_ | refine cmp_eq ?_ | refine cmp_is_nn ?_ | refine cmp_is_vn rfl ?_) | (show Tru _ _ _ _ _ _; refine tru_bool ?_) | (show B _ _ _ _ _ _; first | refine b_cmp rfl ?_ | refine b_boolop ?_ | refine b_plain rfl ?_) | (show BL _ _ _ _ _ _ _; first | refine bl_or ?_ | refine bl_or_nil ?_) | (show EL _ _ _ _ _ _ _; first | refine el_one ?_ | refine el_and ?_) | (show Sub _ _ _ _ _ _ _; first | refine sb_tup ⟨by decide⟩ (by rfl) ?_ | refine sb_int (by walk_at "hp") ?_ ?_ | refine sb_scr (by (with_reducible assumption)) ?_ (by with_reducible assumption) ?_) | (show CB _ _ _ _ _ _ _; first | refine isi_rl (by walk_at "hp") ?_ | refine cb_len_scr (by (with_reducible assumption)) ?_ | refine cb_len_int (by walk_at "hp") ?_ ?_ | refine cb_append (by walk_at "hp") ?_ ?_) | (show CT _ _ _ _ _ _ _; refine ct_list_ref (by walk_at "hp") ?_ ?_) | (show If _ _ _; first | refine if_t ?_ | refine if_f ?_) | (show Rng _ _; first | refine rng1 ?_ ?_ | refine rng2 ?_ ?_))
  all_goals first | exact h | exact ⟨by have := s.h; omega⟩

theorem steeper_ok {X : Value → List O → Prop} {Q : V → List O → Prop} {hp : List O} {a b c d : Int} (s : Side (b.natAbs < 2 ^ 64 ∧ d.natAbs < 2 ^ 64)) (h : Q (.bool (decide (c * b < a * d))) hp) : CallOK (pgo prog w p loose mean mg mb) (lev + 1) true ns 28 [.tup [.int a, .int b], .tup [.int c, .int d]] hp X Q := by
  refine fn_run (xs := ["one", "other"]) (fnAt_of rfl (by kernel_rfl) (fn2 fun _ _ => rfl) (by decide) (by decide) rfl rfl rfl) rfl (by decide +kernel) fun c hc => ?_
  repeat' (first | (show E _ _ _ _ _ _; first | refine e_name (by walk_at "nm") ?_ | refine e_int ?_ | refine e_bin ?_ | refine e_sub rfl ?_ | refine e_cmp rfl ?_ | refine e_callF (by (with_reducible assumption)) (by walk_at "gl") (by kernel_rfl) (by kernel_rfl) rfl ?_ | refine e_callB (by (with_reducible assumption)) (by walk_at "gl") (by kernel_rfl) rfl ?_ | refine e_callT (by (with_reducible assumption)) (by walk_at "gl") (by kernel_rfl) rfl ?_ | refine e_glob (by (with_reducible assumption)) (by kernel_rfl) (by walk_at "gl") ?_ | refine e_tuple ?_ | refine e_boolop ?_ | refine e_list ?_ | refine e_none ?_ | refine e_append rfl rfl rfl ?_ | refine e_comp (by (with_reducible assumption)) (by kernel_rfl) rfl ?_) | (show Sz _ _; refine sz rfl ?_) | (show Lst _ _ _; refine lst_ref (by walk_at "hp") ?_) | (show Es _ _ _ _ _ _; first | refine es_cons rfl ?_ | refine es_nil ?_) | (show Ss _ _ _ _ _ _; first | refine ss_asg ?_ | refine ss_expr ?_ | refine ss_ret ?_ | refine ss_nil ?_) | (show S _ _ _ _ _ _; first | refine s_comp (by (with_reducible assumption)) (by kernel_rfl) (by kernel_rfl) rfl ?_ | refine s_asg (by (with_reducible assumption)) rfl (by kernel_rfl) ?_ | refine s_ret ?_ | refine s_expr rfl ?_) | (show Bin _ _ _ _ _ _ _ _; first | refine bin_add ?_ | refine bin_sub ?_ | refine bin_mul ?_ ?_ | refine bin_mod ?_ ?_ | refine bin_div ?_ ?_ | refine bin_pow18 ?_ | refine bin_pow14 ?_) | (show Cmp _ _ _ _ _ _ _ _; first | refine cmp_lt ?_ | refine cmp_gt ?_ | refine cmp_eq ?_ | refine cmp_is_nn ?_ | refine cmp_is_vn rfl ?_) | (show Tru _ _ _ _ _ _; refine tru_bool ?_) | (show B _ _ _ _ _ _; first | refine b_cmp rfl ?_ | refine b_boolop ?_ | refine b_plain rfl ?_) | (show BL _ _ _ _ _ _ _; first | refine bl_or ?_ | refine bl_or_nil ?_) | (show EL _ _ _ _ _ _ _; first | refine el_one ?_ | refine el_and ?_) | (show Sub _ _ _ _ _ _ _; first | refine sb_tup ⟨by decide⟩ (by rfl) ?_ | refine sb_int (by walk_at "hp") ?_ ?_ | refine sb_scr (by (with_reducible assumption)) ?_ (by with_reducible assumption) ?_) | (show CB _ _ _ _ _ _ _; first | refine isi_rl (by walk_at "hp") ?_ | refine cb_len_scr (by (with_reducible assumption)) ?_ | refine cb_len_int (by walk_at "hp") ?_ ?_ | refine cb_append (by walk_at "hp") ?_ ?_) | (show CT _ _ _ _ _ _ _; refine ct_list_ref (by walk_at "hp") ?_ ?_) | (show If _ _ _; first | refine if_t ?_ | refine if_f ?_) | (show Rng _ _; first | refine rng1 ?_ ?_ | refine rng2 ?_ ?_))
  all_goals first | exact h | exact ⟨.inr s.h.1⟩ | exact ⟨.inr s.h.2⟩

def cell (ns : List Int) (k : Int) : Int := (ns[k.toNat]?).getD 0
theorem cell_at_ok {X : Value → List O → Prop} {Q : V → List O → Prop} {hp : List O} {k : Int} (hn : ns.length < 2 ^ 62) (h0 : Side (0 ≤ k)) (h : Q (.int (cell ns k)) hp) : CallOK (pgo prog w p loose mean mg mb) (lev + 1) true ns 56 [.scr, .int k] hp X Q := by
  refine fn_run (xs := ["_law_script", "_law_k"]) (fnAt_of rfl (by kernel_rfl) (fn2 fun _ _ => rfl) (by decide) (by decide) rfl rfl rfl) rfl (by decide +kernel) fun c hc => ?_
  repeat' (first | (show E _ _ _ _ _ _; first | refine e_name (by walk_at "nm") ?_ | refine e_int ?_ | refine e_bin ?_ | refine e_sub rfl ?_ | refine e_cmp rfl ?_ | refine e_callF (by (with_reducible assumption)) (by walk_at "gl") (by kernel_rfl) (by kernel_rfl) rfl ?_ | refine e_callB (by (with_reducible assumption)) (by walk_at "gl") (by kernel_rfl) rfl ?_ | refine e_callT (by (with_reducible assumption)) (by walk_at "gl") (by kernel_rfl) rfl ?_ | refine e_glob (by (with_reducible assumption)) (by kernel_rfl) (by walk_at "gl") ?_ | refine e_tuple ?_ | refine e_boolop ?_ | refine e_list ?_ | refine e_none ?_ | refine e_append rfl rfl rfl ?_ | refine e_comp (by (with_reducible assumption)) (by kernel_rfl) rfl ?_) | (show Sz _ _; refine sz rfl ?_) | (show Lst _ _ _; refine lst_ref (by walk_at "hp") ?_) | (show Es _ _ _ _ _ _; first | refine es_cons rfl ?_ | refine es_nil ?_) | (show Ss _ _ _ _ _ _; first | refine ss_asg ?_ | refine ss_expr ?_ | refine ss_ret ?_ | refine ss_nil ?_) | (show S _ _ _ _ _ _; first | refine s_comp (by (with_reducible assumption)) (by kernel_rfl) (by kernel_rfl) rfl ?_ | refine s_asg (by (with_reducible assumption)) rfl (by kernel_rfl) ?_ | refine s_ret ?_ | refine s_expr rfl ?_) | (show Bin _ _ _ _ _ _ _ _; first | refine bin_add ?_ | refine bin_sub ?_ | refine bin_mul ?_ ?_ | refine bin_mod ?_ ?_ | refine bin_div ?_ ?_ | refine bin_pow18 ?_ | refine bin_pow14 ?_) | (show Cmp _ _ _ _ _ _ _ _; first | refine cmp_lt ?_ | refine cmp_gt ?_ | refine cmp_eq ?_ | refine cmp_is_nn ?_ | refine cmp_is_vn rfl ?_) | (show Tru _ _ _ _ _ _; refine tru_bool ?_) | (show B _ _ _ _ _ _; first | refine b_cmp rfl ?_ | refine b_boolop ?_ | refine b_plain rfl ?_) | (show BL _ _ _ _ _ _ _; first | refine bl_or ?_ | refine bl_or_nil ?_) | (show EL _ _ _ _ _ _ _; first | refine el_one ?_ | refine el_and ?_) | (show Sub _ _ _ _ _ _ _; first | refine sb_tup ⟨by decide⟩ (by rfl) ?_ | refine sb_int (by walk_at "hp") ?_ ?_ | refine sb_scr (by (with_reducible assumption)) ?_ (by with_reducible assumption) ?_) | (show CB _ _ _ _ _ _ _; first | refine isi_rl (by walk_at "hp") ?_ | refine cb_len_scr (by (with_reducible assumption)) ?_ | refine cb_len_int (by walk_at "hp") ?_ ?_ | refine cb_append (by walk_at "hp") ?_ ?_) | (show CT _ _ _ _ _ _ _; refine ct_list_ref (by walk_at "hp") ?_ ?_) | (show If _ _ _; first | refine if_t ?_ | refine if_f ?_) | (show Rng _ _; first | refine rng1 ?_ ?_ | refine rng2 ?_ ?_))
  refine ss_if ?_
  repeat' (first | (show E _ _ _ _ _ _; first | refine e_name (by walk_at "nm") ?_ | refine e_int ?_ | refine e_bin ?_ | refine e_sub rfl ?_ | refine e_cmp rfl ?_ | refine e_callF (by (with_reducible assumption)) (by walk_at "gl") (by kernel_rfl) (by kernel_rfl) rfl ?_ | refine e_callB (by (with_reducible assumption)) (by walk_at "gl") (by kernel_rfl) rfl ?_ | refine e_callT (by (with_reducible assumption)) (by walk_at "gl") (by kernel_rfl) rfl ?_ | refine e_glob (by (with_reducible assumption)) (by kernel_rfl) (by walk_at "gl") ?_ | refine e_tuple ?_ | refine e_boolop ?_ | refine e_list ?_ | refine e_none ?_ | refine e_append rfl rfl rfl ?_ | refine e_comp (by (with_reducible assumption)) (by kernel_rfl) rfl ?_) | (show Sz _ _; refine sz rfl ?_) | (show Lst _ _ _; refine lst_ref (by walk_at "hp") ?_) | (show Es _ _ _ _ _ _; first | refine es_cons rfl ?_ | refine es_nil ?_) | (show Ss _ _ _ _ _ _; first | refine ss_asg ?_ | refine ss_expr ?_ | refine ss_ret ?_ | refine ss_nil ?_) | (show S _ _ _ _ _ _; first | refine s_comp (by (with_reducible assumption)) (by kernel_rfl) (by kernel_rfl) rfl ?_ | refine s_asg (by (with_reducible assumption)) rfl (by kernel_rfl) ?_ | refine s_ret ?_ | refine s_expr rfl ?_) | (show Bin _ _ _ _ _ _ _ _; first | refine bin_add ?_ | refine bin_sub ?_ | refine bin_mul ?_ ?_ | refine bin_mod ?_ ?_ | refine bin_div ?_ ?_ | refine bin_pow18 ?_ | refine bin_pow14 ?_) | (show Cmp _ _ _ _ _ _ _ _; first | refine cmp_lt ?_ | refine cmp_gt ?_ | refine cmp_eq ?_ | refine cmp_is_nn ?_ | refine cmp_is_vn rfl ?_) | (show Tru _ _ _ _ _ _; refine tru_bool ?_) | (show B _ _ _ _ _ _; first | refine b_cmp rfl ?_ | refine b_boolop ?_ | refine b_plain rfl ?_) | (show BL _ _ _ _ _ _ _; first | refine bl_or ?_ | refine bl_or_nil ?_) | (show EL _ _ _ _ _ _ _; first | refine el_one ?_ | refine el_and ?_) | (show Sub _ _ _ _ _ _ _; first | refine sb_tup ⟨by decide⟩ (by rfl) ?_ | refine sb_int (by walk_at "hp") ?_ ?_ | refine sb_scr (by (with_reducible assumption)) ?_ (by with_reducible assumption) ?_) | (show CB _ _ _ _ _ _ _; first | refine isi_rl (by walk_at "hp") ?_ | refine cb_len_scr (by (with_reducible assumption)) ?_ | refine cb_len_int (by walk_at "hp") ?_ ?_ | refine cb_append (by walk_at "hp") ?_ ?_) | (show CT _ _ _ _ _ _ _; refine ct_list_ref (by walk_at "hp") ?_ ?_) | (show If _ _ _; first | refine if_t ?_ | refine if_f ?_) | (show Rng _ _; first | refine rng1 ?_ ?_ | refine rng2 ?_ ?_))
  have h0' := h0.h
  refine if_decide (fun q => ?_) (fun q => ?_)
  · have e : ns[k.toNat]? = some (cell ns k) := by
      unfold cell
      rw [List.getElem?_eq_getElem (by omega)]
      rfl
    repeat' (first | (show E _ _ _ _ _ _; first | refine e_name (by walk_at "nm") ?_ | refine e_int ?_ | refine e_bin ?_ | refine e_sub rfl ?_ | refine e_cmp rfl ?_ | refine e_callF (by (with_reducible assumption)) (by walk_at "gl") (by kernel_rfl) (by kernel_rfl) rfl ?_ | refine e_callB (by (with_reducible assumption)) (by walk_at "gl") (by kernel_rfl) rfl ?_ | refine e_callT (by (with_reducible assumption)) (by walk_at "gl") (by kernel_rfl) rfl ?_ | refine e_glob (by (with_reducible assumption)) (by kernel_rfl) (by walk_at "gl") ?_ | refine e_tuple ?_ | refine e_boolop ?_ | refine e_list ?_ | refine e_none ?_ | refine e_append rfl rfl rfl ?_ | refine e_comp (by (with_reducible assumption)) (by kernel_rfl) rfl ?_) | (show Sz _ _; refine sz rfl ?_) | (show Lst _ _ _; refine lst_ref (by walk_at "hp") ?_) | (show Es _ _ _ _ _ _; first | refine es_cons rfl ?_ | refine es_nil ?_) | (show Ss _ _ _ _ _ _; first | refine ss_asg ?_ | refine ss_expr ?_ | refine ss_ret ?_ | refine ss_nil ?_) | (show S _ _ _ _ _ _; first | refine s_comp (by (with_reducible assumption)) (by kernel_rfl) (by kernel_rfl) rfl ?_ | refine s_asg (by (with_reducible assumption)) rfl (by kernel_rfl) ?_ | refine s_ret ?_ | refine s_expr rfl ?_) | (show Bin _ _ _ _ _ _ _ _; first | refine bin_add ?_ | refine bin_sub ?_ | refine bin_mul ?_ ?_ | refine bin_mod ?_ ?_ | refine bin_div ?_ ?_ | refine bin_pow18 ?_ | refine bin_pow14 ?_) | (show Cmp _ _ _ _ _ _ _ _; first | refine cmp_lt ?_ | refine cmp_gt ?_ | refine cmp_eq ?_ | refine cmp_is_nn ?_ | refine cmp_is_vn rfl ?_) | (show Tru _ _ _ _ _ _; refine tru_bool ?_) | (show B _ _ _ _ _ _; first | refine b_cmp rfl ?_ | refine b_boolop ?_ | refine b_plain rfl ?_) | (show BL _ _ _ _ _ _ _; first | refine bl_or ?_ | refine bl_or_nil ?_) | (show EL _ _ _ _ _ _ _; first | refine el_one ?_ | refine el_and ?_) | (show Sub _ _ _ _ _ _ _; first | refine sb_tup ⟨by decide⟩ (by rfl) ?_ | refine sb_int (by walk_at "hp") ?_ ?_ | refine sb_scr (by (with_reducible assumption)) ?_ (by with_reducible assumption) ?_) | (show CB _ _ _ _ _ _ _; first | refine isi_rl (by walk_at "hp") ?_ | refine cb_len_scr (by (with_reducible assumption)) ?_ | refine cb_len_int (by walk_at "hp") ?_ ?_ | refine cb_append (by walk_at "hp") ?_ ?_) | (show CT _ _ _ _ _ _ _; refine ct_list_ref (by walk_at "hp") ?_ ?_) | (show If _ _ _; first | refine if_t ?_ | refine if_f ?_) | (show Rng _ _; first | refine rng1 ?_ ?_ | refine rng2 ?_ ?_))
    · exact h0
    · exact h
  · have e : cell ns k = 0 := by
      unfold cell
      rw [List.getElem?_eq_none (by omega)]
      rfl
    repeat' (first | (show E _ _ _ _ _ _; first | refine e_name (by walk_at "nm") ?_ | refine e_int ?_ | refine e_bin ?_ | refine e_sub rfl ?_ | refine e_cmp rfl ?_ | refine e_callF (by (with_reducible assumption)) (by walk_at "gl") (by kernel_rfl) (by kernel_rfl) rfl ?_ | refine e_callB (by (with_reducible assumption)) (by walk_at "gl") (by kernel_rfl) rfl ?_ | refine e_callT (by (with_reducible assumption)) (by walk_at "gl") (by kernel_rfl) rfl ?_ | refine e_glob (by (with_reducible assumption)) (by kernel_rfl) (by walk_at "gl") ?_ | refine e_tuple ?_ | refine e_boolop ?_ | refine e_list ?_ | refine e_none ?_ | refine e_append rfl rfl rfl ?_ | refine e_comp (by (with_reducible assumption)) (by kernel_rfl) rfl ?_) | (show Sz _ _; refine sz rfl ?_) | (show Lst _ _ _; refine lst_ref (by walk_at "hp") ?_) | (show Es _ _ _ _ _ _; first | refine es_cons rfl ?_ | refine es_nil ?_) | (show Ss _ _ _ _ _ _; first | refine ss_asg ?_ | refine ss_expr ?_ | refine ss_ret ?_ | refine ss_nil ?_) | (show S _ _ _ _ _ _; first | refine s_comp (by (with_reducible assumption)) (by kernel_rfl) (by kernel_rfl) rfl ?_ | refine s_asg (by (with_reducible assumption)) rfl (by kernel_rfl) ?_ | refine s_ret ?_ | refine s_expr rfl ?_) | (show Bin _ _ _ _ _ _ _ _; first | refine bin_add ?_ | refine bin_sub ?_ | refine bin_mul ?_ ?_ | refine bin_mod ?_ ?_ | refine bin_div ?_ ?_ | refine bin_pow18 ?_ | refine bin_pow14 ?_) | (show Cmp _ _ _ _ _ _ _ _; first | refine cmp_lt ?_ | refine cmp_gt ?_ | refine cmp_eq ?_ | refine cmp_is_nn ?_ | refine cmp_is_vn rfl ?_) | (show Tru _ _ _ _ _ _; refine tru_bool ?_) | (show B _ _ _ _ _ _; first | refine b_cmp rfl ?_ | refine b_boolop ?_ | refine b_plain rfl ?_) | (show BL _ _ _ _ _ _ _; first | refine bl_or ?_ | refine bl_or_nil ?_) | (show EL _ _ _ _ _ _ _; first | refine el_one ?_ | refine el_and ?_) | (show Sub _ _ _ _ _ _ _; first | refine sb_tup ⟨by decide⟩ (by rfl) ?_ | refine sb_int (by walk_at "hp") ?_ ?_ | refine sb_scr (by (with_reducible assumption)) ?_ (by with_reducible assumption) ?_) | (show CB _ _ _ _ _ _ _; first | refine isi_rl (by walk_at "hp") ?_ | refine cb_len_scr (by (with_reducible assumption)) ?_ | refine cb_len_int (by walk_at "hp") ?_ ?_ | refine cb_append (by walk_at "hp") ?_ ?_) | (show CT _ _ _ _ _ _ _; refine ct_list_ref (by walk_at "hp") ?_ ?_) | (show If _ _ _; first | refine if_t ?_ | refine if_f ?_) | (show Rng _ _; first | refine rng1 ?_ ?_ | refine rng2 ?_ ?_))
    rw [e] at h
    exact h

theorem height_by_ok {X : Value → List O → Prop} {Q : V → List O → Prop} {hp : List O} {a k kd t : Int} (s : Side (k.natAbs < 2 ^ 62)) (h : ∀ x, Q (.int x) hp) : CallOK (pgo prog w p loose mean mg mb) (lev + 1) true ns 63 [.int a, .int k, .int kd, .int t] hp X Q := by
  refine fn_run (xs := ["_law_cell", "_law_k", "_law_kind", "_law_tilt"]) (fnAt_of rfl (by kernel_rfl) (fn4 fun _ _ _ _ => rfl) (by decide) (by decide) rfl rfl rfl) rfl (by decide +kernel) fun c hc => ?_
  repeat' (first | (show E _ _ _ _ _ _; first | refine e_name (by walk_at "nm") ?_ | refine e_int ?_ | refine e_bin ?_ | refine e_sub rfl ?_ | refine e_cmp rfl ?_ | refine e_callF (by (with_reducible assumption)) (by walk_at "gl") (by kernel_rfl) (by kernel_rfl) rfl ?_ | refine e_callB (by (with_reducible assumption)) (by walk_at "gl") (by kernel_rfl) rfl ?_ | refine e_callT (by (with_reducible assumption)) (by walk_at "gl") (by kernel_rfl) rfl ?_ | refine e_glob (by (with_reducible assumption)) (by kernel_rfl) (by walk_at "gl") ?_ | refine e_tuple ?_ | refine e_boolop ?_ | refine e_list ?_ | refine e_none ?_ | refine e_append rfl rfl rfl ?_ | refine e_comp (by (with_reducible assumption)) (by kernel_rfl) rfl ?_) | (show Sz _ _; refine sz rfl ?_) | (show Lst _ _ _; refine lst_ref (by walk_at "hp") ?_) | (show Es _ _ _ _ _ _; first | refine es_cons rfl ?_ | refine es_nil ?_) | (show Ss _ _ _ _ _ _; first | refine ss_asg ?_ | refine ss_expr ?_ | refine ss_ret ?_ | refine ss_nil ?_) | (show S _ _ _ _ _ _; first | refine s_comp (by (with_reducible assumption)) (by kernel_rfl) (by kernel_rfl) rfl ?_ | refine s_asg (by (with_reducible assumption)) rfl (by kernel_rfl) ?_ | refine s_ret ?_ | refine s_expr rfl ?_) | (show Bin _ _ _ _ _ _ _ _; first | refine bin_add ?_ | refine bin_sub ?_ | refine bin_mul ?_ ?_ | refine bin_mod ?_ ?_ | refine bin_div ?_ ?_ | refine bin_pow18 ?_ | refine bin_pow14 ?_) | (show Cmp _ _ _ _ _ _ _ _; first | refine cmp_lt ?_ | refine cmp_gt ?_ | refine cmp_eq ?_ | refine cmp_is_nn ?_ | refine cmp_is_vn rfl ?_) | (show Tru _ _ _ _ _ _; refine tru_bool ?_) | (show B _ _ _ _ _ _; first | refine b_cmp rfl ?_ | refine b_boolop ?_ | refine b_plain rfl ?_) | (show BL _ _ _ _ _ _ _; first | refine bl_or ?_ | refine bl_or_nil ?_) | (show EL _ _ _ _ _ _ _; first | refine el_one ?_ | refine el_and ?_) | (show Sub _ _ _ _ _ _ _; first | refine sb_tup ⟨by decide⟩ (by rfl) ?_ | refine sb_int (by walk_at "hp") ?_ ?_ | refine sb_scr (by (with_reducible assumption)) ?_ (by with_reducible assumption) ?_) | (show CB _ _ _ _ _ _ _; first | refine isi_rl (by walk_at "hp") ?_ | refine cb_len_scr (by (with_reducible assumption)) ?_ | refine cb_len_int (by walk_at "hp") ?_ ?_ | refine cb_append (by walk_at "hp") ?_ ?_) | (show CT _ _ _ _ _ _ _; refine ct_list_ref (by walk_at "hp") ?_ ?_) | (show If _ _ _; first | refine if_t ?_ | refine if_f ?_) | (show Rng _ _; first | refine rng1 ?_ ?_ | refine rng2 ?_ ?_))
  refine ss_if ?_
  repeat' (first | (show E _ _ _ _ _ _; first | refine e_name (by walk_at "nm") ?_ | refine e_int ?_ | refine e_bin ?_ | refine e_sub rfl ?_ | refine e_cmp rfl ?_ | refine e_callF (by (with_reducible assumption)) (by walk_at "gl") (by kernel_rfl) (by kernel_rfl) rfl ?_ | refine e_callB (by (with_reducible assumption)) (by walk_at "gl") (by kernel_rfl) rfl ?_ | refine e_callT (by (with_reducible assumption)) (by walk_at "gl") (by kernel_rfl) rfl ?_ | refine e_glob (by (with_reducible assumption)) (by kernel_rfl) (by walk_at "gl") ?_ | refine e_tuple ?_ | refine e_boolop ?_ | refine e_list ?_ | refine e_none ?_ | refine e_append rfl rfl rfl ?_ | refine e_comp (by (with_reducible assumption)) (by kernel_rfl) rfl ?_) | (show Sz _ _; refine sz rfl ?_) | (show Lst _ _ _; refine lst_ref (by walk_at "hp") ?_) | (show Es _ _ _ _ _ _; first | refine es_cons rfl ?_ | refine es_nil ?_) | (show Ss _ _ _ _ _ _; first | refine ss_asg ?_ | refine ss_expr ?_ | refine ss_ret ?_ | refine ss_nil ?_) | (show S _ _ _ _ _ _; first | refine s_comp (by (with_reducible assumption)) (by kernel_rfl) (by kernel_rfl) rfl ?_ | refine s_asg (by (with_reducible assumption)) rfl (by kernel_rfl) ?_ | refine s_ret ?_ | refine s_expr rfl ?_) | (show Bin _ _ _ _ _ _ _ _; first | refine bin_add ?_ | refine bin_sub ?_ | refine bin_mul ?_ ?_ | refine bin_mod ?_ ?_ | refine bin_div ?_ ?_ | refine bin_pow18 ?_ | refine bin_pow14 ?_) | (show Cmp _ _ _ _ _ _ _ _; first | refine cmp_lt ?_ | refine cmp_gt ?_ | refine cmp_eq ?_ | refine cmp_is_nn ?_ | refine cmp_is_vn rfl ?_) | (show Tru _ _ _ _ _ _; refine tru_bool ?_) | (show B _ _ _ _ _ _; first | refine b_cmp rfl ?_ | refine b_boolop ?_ | refine b_plain rfl ?_) | (show BL _ _ _ _ _ _ _; first | refine bl_or ?_ | refine bl_or_nil ?_) | (show EL _ _ _ _ _ _ _; first | refine el_one ?_ | refine el_and ?_) | (show Sub _ _ _ _ _ _ _; first | refine sb_tup ⟨by decide⟩ (by rfl) ?_ | refine sb_int (by walk_at "hp") ?_ ?_ | refine sb_scr (by (with_reducible assumption)) ?_ (by with_reducible assumption) ?_) | (show CB _ _ _ _ _ _ _; first | refine isi_rl (by walk_at "hp") ?_ | refine cb_len_scr (by (with_reducible assumption)) ?_ | refine cb_len_int (by walk_at "hp") ?_ ?_ | refine cb_append (by walk_at "hp") ?_ ?_) | (show CT _ _ _ _ _ _ _; refine ct_list_ref (by walk_at "hp") ?_ ?_) | (show If _ _ _; first | refine if_t ?_ | refine if_f ?_) | (show Rng _ _; first | refine rng1 ?_ ?_ | refine rng2 ?_ ?_))
  refine if_decide (fun q => ?_) (fun q => ?_)
  · repeat' (first | (show E _ _ _ _ _ _; first | refine e_name (by walk_at "nm") ?_ | refine e_int ?_ | refine e_bin ?_ | refine e_sub rfl ?_ | refine e_cmp rfl ?_ | refine e_callF (by (with_reducible assumption)) (by walk_at "gl") (by kernel_rfl) (by kernel_rfl) rfl ?_ | refine e_callB (by (with_reducible assumption)) (by walk_at "gl") (by kernel_rfl) rfl ?_ | refine e_callT (by (with_reducible assumption)) (by walk_at "gl") (by kernel_rfl) rfl ?_ | refine e_glob (by (with_reducible assumption)) (by kernel_rfl) (by walk_at "gl") ?_ | refine e_tuple ?_ | refine e_boolop ?_ | refine e_list ?_ | refine e_none ?_ | refine e_append rfl rfl rfl ?_ | refine e_comp (by (with_reducible assumption)) (by kernel_rfl) rfl ?_) | (show Sz _ _; refine sz rfl ?_) | (show Lst _ _ _; refine lst_ref (by walk_at "hp") ?_) | (show Es _ _ _ _ _ _; first | refine es_cons rfl ?_ | refine es_nil ?_) | (show Ss _ _ _ _ _ _; first | refine ss_asg ?_ | refine ss_expr ?_ | refine ss_ret ?_ | refine ss_nil ?_) | (show S _ _ _ _ _ _; first | refine s_comp (by (with_reducible assumption)) (by kernel_rfl) (by kernel_rfl) rfl ?_ | refine s_asg (by (with_reducible assumption)) rfl (by kernel_rfl) ?_ | refine s_ret ?_ | refine s_expr rfl ?_) | (show Bin _ _ _ _ _ _ _ _; first | refine bin_add ?_ | refine bin_sub ?_ | refine bin_mul ?_ ?_ | refine bin_mod ?_ ?_ | refine bin_div ?_ ?_ | refine bin_pow18 ?_ | refine bin_pow14 ?_) | (show Cmp _ _ _ _ _ _ _ _; first | refine cmp_lt ?_ | refine cmp_gt ?_ | refine cmp_eq ?_ | refine cmp_is_nn ?_ | refine cmp_is_vn rfl ?_) | (show Tru _ _ _ _ _ _; refine tru_bool ?_) | (show B _ _ _ _ _ _; first | refine b_cmp rfl ?_ | refine b_boolop ?_ | refine b_plain rfl ?_) | (show BL _ _ _ _ _ _ _; first | refine bl_or ?_ | refine bl_or_nil ?_) | (show EL _ _ _ _ _ _ _; first | refine el_one ?_ | refine el_and ?_) | (show Sub _ _ _ _ _ _ _; first | refine sb_tup ⟨by decide⟩ (by rfl) ?_ | refine sb_int (by walk_at "hp") ?_ ?_ | refine sb_scr (by (with_reducible assumption)) ?_ (by with_reducible assumption) ?_) | (show CB _ _ _ _ _ _ _; first | refine isi_rl (by walk_at "hp") ?_ | refine cb_len_scr (by (with_reducible assumption)) ?_ | refine cb_len_int (by walk_at "hp") ?_ ?_ | refine cb_append (by walk_at "hp") ?_ ?_) | (show CT _ _ _ _ _ _ _; refine ct_list_ref (by walk_at "hp") ?_ ?_) | (show If _ _ _; first | refine if_t ?_ | refine if_f ?_) | (show Rng _ _; first | refine rng1 ?_ ?_ | refine rng2 ?_ ?_))
    all_goals first | exact h _ | (first | assumption | (refine Side.mk ?_; first | assumption | decide | omega | exact .inr (by decide) | exact .inl (by decide) | exact .inr (by omega) | exact .inl (by omega) | (simp only [List.length_map, List.length_append, List.length_cons, List.length_nil, sizeLine] <;> omega)))
  repeat' (first | (show E _ _ _ _ _ _; first | refine e_name (by walk_at "nm") ?_ | refine e_int ?_ | refine e_bin ?_ | refine e_sub rfl ?_ | refine e_cmp rfl ?_ | refine e_callF (by (with_reducible assumption)) (by walk_at "gl") (by kernel_rfl) (by kernel_rfl) rfl ?_ | refine e_callB (by (with_reducible assumption)) (by walk_at "gl") (by kernel_rfl) rfl ?_ | refine e_callT (by (with_reducible assumption)) (by walk_at "gl") (by kernel_rfl) rfl ?_ | refine e_glob (by (with_reducible assumption)) (by kernel_rfl) (by walk_at "gl") ?_ | refine e_tuple ?_ | refine e_boolop ?_ | refine e_list ?_ | refine e_none ?_ | refine e_append rfl rfl rfl ?_ | refine e_comp (by (with_reducible assumption)) (by kernel_rfl) rfl ?_) | (show Sz _ _; refine sz rfl ?_) | (show Lst _ _ _; refine lst_ref (by walk_at "hp") ?_) | (show Es _ _ _ _ _ _; first | refine es_cons rfl ?_ | refine es_nil ?_) | (show Ss _ _ _ _ _ _; first | refine ss_asg ?_ | refine ss_expr ?_ | refine ss_ret ?_ | refine ss_nil ?_) | (show S _ _ _ _ _ _; first | refine s_comp (by (with_reducible assumption)) (by kernel_rfl) (by kernel_rfl) rfl ?_ | refine s_asg (by (with_reducible assumption)) rfl (by kernel_rfl) ?_ | refine s_ret ?_ | refine s_expr rfl ?_) | (show Bin _ _ _ _ _ _ _ _; first | refine bin_add ?_ | refine bin_sub ?_ | refine bin_mul ?_ ?_ | refine bin_mod ?_ ?_ | refine bin_div ?_ ?_ | refine bin_pow18 ?_ | refine bin_pow14 ?_) | (show Cmp _ _ _ _ _ _ _ _; first | refine cmp_lt ?_ | refine cmp_gt ?_ | refine cmp_eq ?_ | refine cmp_is_nn ?_ | refine cmp_is_vn rfl ?_) | (show Tru _ _ _ _ _ _; refine tru_bool ?_) | (show B _ _ _ _ _ _; first | refine b_cmp rfl ?_ | refine b_boolop ?_ | refine b_plain rfl ?_) | (show BL _ _ _ _ _ _ _; first | refine bl_or ?_ | refine bl_or_nil ?_) | (show EL _ _ _ _ _ _ _; first | refine el_one ?_ | refine el_and ?_) | (show Sub _ _ _ _ _ _ _; first | refine sb_tup ⟨by decide⟩ (by rfl) ?_ | refine sb_int (by walk_at "hp") ?_ ?_ | refine sb_scr (by (with_reducible assumption)) ?_ (by with_reducible assumption) ?_) | (show CB _ _ _ _ _ _ _; first | refine isi_rl (by walk_at "hp") ?_ | refine cb_len_scr (by (with_reducible assumption)) ?_ | refine cb_len_int (by walk_at "hp") ?_ ?_ | refine cb_append (by walk_at "hp") ?_ ?_) | (show CT _ _ _ _ _ _ _; refine ct_list_ref (by walk_at "hp") ?_ ?_) | (show If _ _ _; first | refine if_t ?_ | refine if_f ?_) | (show Rng _ _; first | refine rng1 ?_ ?_ | refine rng2 ?_ ?_))
  refine ss_if ?_
  repeat' (first | (show E _ _ _ _ _ _; first | refine e_name (by walk_at "nm") ?_ | refine e_int ?_ | refine e_bin ?_ | refine e_sub rfl ?_ | refine e_cmp rfl ?_ | refine e_callF (by (with_reducible assumption)) (by walk_at "gl") (by kernel_rfl) (by kernel_rfl) rfl ?_ | refine e_callB (by (with_reducible assumption)) (by walk_at "gl") (by kernel_rfl) rfl ?_ | refine e_callT (by (with_reducible assumption)) (by walk_at "gl") (by kernel_rfl) rfl ?_ | refine e_glob (by (with_reducible assumption)) (by kernel_rfl) (by walk_at "gl") ?_ | refine e_tuple ?_ | refine e_boolop ?_ | refine e_list ?_ | refine e_none ?_ | refine e_append rfl rfl rfl ?_ | refine e_comp (by (with_reducible assumption)) (by kernel_rfl) rfl ?_) | (show Sz _ _; refine sz rfl ?_) | (show Lst _ _ _; refine lst_ref (by walk_at "hp") ?_) | (show Es _ _ _ _ _ _; first | refine es_cons rfl ?_ | refine es_nil ?_) | (show Ss _ _ _ _ _ _; first | refine ss_asg ?_ | refine ss_expr ?_ | refine ss_ret ?_ | refine ss_nil ?_) | (show S _ _ _ _ _ _; first | refine s_comp (by (with_reducible assumption)) (by kernel_rfl) (by kernel_rfl) rfl ?_ | refine s_asg (by (with_reducible assumption)) rfl (by kernel_rfl) ?_ | refine s_ret ?_ | refine s_expr rfl ?_) | (show Bin _ _ _ _ _ _ _ _; first | refine bin_add ?_ | refine bin_sub ?_ | refine bin_mul ?_ ?_ | refine bin_mod ?_ ?_ | refine bin_div ?_ ?_ | refine bin_pow18 ?_ | refine bin_pow14 ?_) | (show Cmp _ _ _ _ _ _ _ _; first | refine cmp_lt ?_ | refine cmp_gt ?_ | refine cmp_eq ?_ | refine cmp_is_nn ?_ | refine cmp_is_vn rfl ?_) | (show Tru _ _ _ _ _ _; refine tru_bool ?_) | (show B _ _ _ _ _ _; first | refine b_cmp rfl ?_ | refine b_boolop ?_ | refine b_plain rfl ?_) | (show BL _ _ _ _ _ _ _; first | refine bl_or ?_ | refine bl_or_nil ?_) | (show EL _ _ _ _ _ _ _; first | refine el_one ?_ | refine el_and ?_) | (show Sub _ _ _ _ _ _ _; first | refine sb_tup ⟨by decide⟩ (by rfl) ?_ | refine sb_int (by walk_at "hp") ?_ ?_ | refine sb_scr (by (with_reducible assumption)) ?_ (by with_reducible assumption) ?_) | (show CB _ _ _ _ _ _ _; first | refine isi_rl (by walk_at "hp") ?_ | refine cb_len_scr (by (with_reducible assumption)) ?_ | refine cb_len_int (by walk_at "hp") ?_ ?_ | refine cb_append (by walk_at "hp") ?_ ?_) | (show CT _ _ _ _ _ _ _; refine ct_list_ref (by walk_at "hp") ?_ ?_) | (show If _ _ _; first | refine if_t ?_ | refine if_f ?_) | (show Rng _ _; first | refine rng1 ?_ ?_ | refine rng2 ?_ ?_))
  refine if_decide (fun q => ?_) (fun q => ?_)
  · repeat' (first | (show E _ _ _ _ _ _; first | refine e_name (by walk_at "nm") ?_ | refine e_int ?_ | refine e_bin ?_ | refine e_sub rfl ?_ | refine e_cmp rfl ?_ | refine e_callF (by (with_reducible assumption)) (by walk_at "gl") (by kernel_rfl) (by kernel_rfl) rfl ?_ | refine e_callB (by (with_reducible assumption)) (by walk_at "gl") (by kernel_rfl) rfl ?_ | refine e_callT (by (with_reducible assumption)) (by walk_at "gl") (by kernel_rfl) rfl ?_ | refine e_glob (by (with_reducible assumption)) (by kernel_rfl) (by walk_at "gl") ?_ | refine e_tuple ?_ | refine e_boolop ?_ | refine e_list ?_ | refine e_none ?_ | refine e_append rfl rfl rfl ?_ | refine e_comp (by (with_reducible assumption)) (by kernel_rfl) rfl ?_) | (show Sz _ _; refine sz rfl ?_) | (show Lst _ _ _; refine lst_ref (by walk_at "hp") ?_) | (show Es _ _ _ _ _ _; first | refine es_cons rfl ?_ | refine es_nil ?_) | (show Ss _ _ _ _ _ _; first | refine ss_asg ?_ | refine ss_expr ?_ | refine ss_ret ?_ | refine ss_nil ?_) | (show S _ _ _ _ _ _; first | refine s_comp (by (with_reducible assumption)) (by kernel_rfl) (by kernel_rfl) rfl ?_ | refine s_asg (by (with_reducible assumption)) rfl (by kernel_rfl) ?_ | refine s_ret ?_ | refine s_expr rfl ?_) | (show Bin _ _ _ _ _ _ _ _; first | refine bin_add ?_ | refine bin_sub ?_ | refine bin_mul ?_ ?_ | refine bin_mod ?_ ?_ | refine bin_div ?_ ?_ | refine bin_pow18 ?_ | refine bin_pow14 ?_) | (show Cmp _ _ _ _ _ _ _ _; first | refine cmp_lt ?_ | refine cmp_gt ?_ | refine cmp_eq ?_ | refine cmp_is_nn ?_ | refine cmp_is_vn rfl ?_) | (show Tru _ _ _ _ _ _; refine tru_bool ?_) | (show B _ _ _ _ _ _; first | refine b_cmp rfl ?_ | refine b_boolop ?_ | refine b_plain rfl ?_) | (show BL _ _ _ _ _ _ _; first | refine bl_or ?_ | refine bl_or_nil ?_) | (show EL _ _ _ _ _ _ _; first | refine el_one ?_ | refine el_and ?_) | (show Sub _ _ _ _ _ _ _; first | refine sb_tup ⟨by decide⟩ (by rfl) ?_ | refine sb_int (by walk_at "hp") ?_ ?_ | refine sb_scr (by (with_reducible assumption)) ?_ (by with_reducible assumption) ?_) | (show CB _ _ _ _ _ _ _; first | refine isi_rl (by walk_at "hp") ?_ | refine cb_len_scr (by (with_reducible assumption)) ?_ | refine cb_len_int (by walk_at "hp") ?_ ?_ | refine cb_append (by walk_at "hp") ?_ ?_) | (show CT _ _ _ _ _ _ _; refine ct_list_ref (by walk_at "hp") ?_ ?_) | (show If _ _ _; first | refine if_t ?_ | refine if_f ?_) | (show Rng _ _; first | refine rng1 ?_ ?_ | refine rng2 ?_ ?_))
    all_goals first | exact h _ | (first | assumption | (refine Side.mk ?_; first | assumption | decide | omega | exact .inr (by decide) | exact .inl (by decide) | exact .inr (by omega) | exact .inl (by omega) | (simp only [List.length_map, List.length_append, List.length_cons, List.length_nil, sizeLine] <;> omega))) | exact ⟨.inr (by have := s.h; omega)⟩
  repeat' (first | (show E _ _ _ _ _ _; first | refine e_name (by walk_at "nm") ?_ | refine e_int ?_ | refine e_bin ?_ | refine e_sub rfl ?_ | refine e_cmp rfl ?_ | refine e_callF (by (with_reducible assumption)) (by walk_at "gl") (by kernel_rfl) (by kernel_rfl) rfl ?_ | refine e_callB (by (with_reducible assumption)) (by walk_at "gl") (by kernel_rfl) rfl ?_ | refine e_callT (by (with_reducible assumption)) (by walk_at "gl") (by kernel_rfl) rfl ?_ | refine e_glob (by (with_reducible assumption)) (by kernel_rfl) (by walk_at "gl") ?_ | refine e_tuple ?_ | refine e_boolop ?_ | refine e_list ?_ | refine e_none ?_ | refine e_append rfl rfl rfl ?_ | refine e_comp (by (with_reducible assumption)) (by kernel_rfl) rfl ?_) | (show Sz _ _; refine sz rfl ?_) | (show Lst _ _ _; refine lst_ref (by walk_at "hp") ?_) | (show Es _ _ _ _ _ _; first | refine es_cons rfl ?_ | refine es_nil ?_) | (show Ss _ _ _ _ _ _; first | refine ss_asg ?_ | refine ss_expr ?_ | refine ss_ret ?_ | refine ss_nil ?_) | (show S _ _ _ _ _ _; first | refine s_comp (by (with_reducible assumption)) (by kernel_rfl) (by kernel_rfl) rfl ?_ | refine s_asg (by (with_reducible assumption)) rfl (by kernel_rfl) ?_ | refine s_ret ?_ | refine s_expr rfl ?_) | (show Bin _ _ _ _ _ _ _ _; first | refine bin_add ?_ | refine bin_sub ?_ | refine bin_mul ?_ ?_ | refine bin_mod ?_ ?_ | refine bin_div ?_ ?_ | refine bin_pow18 ?_ | refine bin_pow14 ?_) | (show Cmp _ _ _ _ _ _ _ _; first | refine cmp_lt ?_ | refine cmp_gt ?_ | refine cmp_eq ?_ | refine cmp_is_nn ?_ | refine cmp_is_vn rfl ?_) | (show Tru _ _ _ _ _ _; refine tru_bool ?_) | (show B _ _ _ _ _ _; first | refine b_cmp rfl ?_ | refine b_boolop ?_ | refine b_plain rfl ?_) | (show BL _ _ _ _ _ _ _; first | refine bl_or ?_ | refine bl_or_nil ?_) | (show EL _ _ _ _ _ _ _; first | refine el_one ?_ | refine el_and ?_) | (show Sub _ _ _ _ _ _ _; first | refine sb_tup ⟨by decide⟩ (by rfl) ?_ | refine sb_int (by walk_at "hp") ?_ ?_ | refine sb_scr (by (with_reducible assumption)) ?_ (by with_reducible assumption) ?_) | (show CB _ _ _ _ _ _ _; first | refine isi_rl (by walk_at "hp") ?_ | refine cb_len_scr (by (with_reducible assumption)) ?_ | refine cb_len_int (by walk_at "hp") ?_ ?_ | refine cb_append (by walk_at "hp") ?_ ?_) | (show CT _ _ _ _ _ _ _; refine ct_list_ref (by walk_at "hp") ?_ ?_) | (show If _ _ _; first | refine if_t ?_ | refine if_f ?_) | (show Rng _ _; first | refine rng1 ?_ ?_ | refine rng2 ?_ ?_))
  refine ss_if ?_
  repeat' (first | (show E _ _ _ _ _ _; first | refine e_name (by walk_at "nm") ?_ | refine e_int ?_ | refine e_bin ?_ | refine e_sub rfl ?_ | refine e_cmp rfl ?_ | refine e_callF (by (with_reducible assumption)) (by walk_at "gl") (by kernel_rfl) (by kernel_rfl) rfl ?_ | refine e_callB (by (with_reducible assumption)) (by walk_at "gl") (by kernel_rfl) rfl ?_ | refine e_callT (by (with_reducible assumption)) (by walk_at "gl") (by kernel_rfl) rfl ?_ | refine e_glob (by (with_reducible assumption)) (by kernel_rfl) (by walk_at "gl") ?_ | refine e_tuple ?_ | refine e_boolop ?_ | refine e_list ?_ | refine e_none ?_ | refine e_append rfl rfl rfl ?_ | refine e_comp (by (with_reducible assumption)) (by kernel_rfl) rfl ?_) | (show Sz _ _; refine sz rfl ?_) | (show Lst _ _ _; refine lst_ref (by walk_at "hp") ?_) | (show Es _ _ _ _ _ _; first | refine es_cons rfl ?_ | refine es_nil ?_) | (show Ss _ _ _ _ _ _; first | refine ss_asg ?_ | refine ss_expr ?_ | refine ss_ret ?_ | refine ss_nil ?_) | (show S _ _ _ _ _ _; first | refine s_comp (by (with_reducible assumption)) (by kernel_rfl) (by kernel_rfl) rfl ?_ | refine s_asg (by (with_reducible assumption)) rfl (by kernel_rfl) ?_ | refine s_ret ?_ | refine s_expr rfl ?_) | (show Bin _ _ _ _ _ _ _ _; first | refine bin_add ?_ | refine bin_sub ?_ | refine bin_mul ?_ ?_ | refine bin_mod ?_ ?_ | refine bin_div ?_ ?_ | refine bin_pow18 ?_ | refine bin_pow14 ?_) | (show Cmp _ _ _ _ _ _ _ _; first | refine cmp_lt ?_ | refine cmp_gt ?_ | refine cmp_eq ?_ | refine cmp_is_nn ?_ | refine cmp_is_vn rfl ?_) | (show Tru _ _ _ _ _ _; refine tru_bool ?_) | (show B _ _ _ _ _ _; first | refine b_cmp rfl ?_ | refine b_boolop ?_ | refine b_plain rfl ?_) | (show BL _ _ _ _ _ _ _; first | refine bl_or ?_ | refine bl_or_nil ?_) | (show EL _ _ _ _ _ _ _; first | refine el_one ?_ | refine el_and ?_) | (show Sub _ _ _ _ _ _ _; first | refine sb_tup ⟨by decide⟩ (by rfl) ?_ | refine sb_int (by walk_at "hp") ?_ ?_ | refine sb_scr (by (with_reducible assumption)) ?_ (by with_reducible assumption) ?_) | (show CB _ _ _ _ _ _ _; first | refine isi_rl (by walk_at "hp") ?_ | refine cb_len_scr (by (with_reducible assumption)) ?_ | refine cb_len_int (by walk_at "hp") ?_ ?_ | refine cb_append (by walk_at "hp") ?_ ?_) | (show CT _ _ _ _ _ _ _; refine ct_list_ref (by walk_at "hp") ?_ ?_) | (show If _ _ _; first | refine if_t ?_ | refine if_f ?_) | (show Rng _ _; first | refine rng1 ?_ ?_ | refine rng2 ?_ ?_))
  refine if_decide (fun q => ?_) (fun q => ?_)
  · repeat' (first | (show E _ _ _ _ _ _; first | refine e_name (by walk_at "nm") ?_ | refine e_int ?_ | refine e_bin ?_ | refine e_sub rfl ?_ | refine e_cmp rfl ?_ | refine e_callF (by (with_reducible assumption)) (by walk_at "gl") (by kernel_rfl) (by kernel_rfl) rfl ?_ | refine e_callB (by (with_reducible assumption)) (by walk_at "gl") (by kernel_rfl) rfl ?_ | refine e_callT (by (with_reducible assumption)) (by walk_at "gl") (by kernel_rfl) rfl ?_ | refine e_glob (by (with_reducible assumption)) (by kernel_rfl) (by walk_at "gl") ?_ | refine e_tuple ?_ | refine e_boolop ?_ | refine e_list ?_ | refine e_none ?_ | refine e_append rfl rfl rfl ?_ | refine e_comp (by (with_reducible assumption)) (by kernel_rfl) rfl ?_) | (show Sz _ _; refine sz rfl ?_) | (show Lst _ _ _; refine lst_ref (by walk_at "hp") ?_) | (show Es _ _ _ _ _ _; first | refine es_cons rfl ?_ | refine es_nil ?_) | (show Ss _ _ _ _ _ _; first | refine ss_asg ?_ | refine ss_expr ?_ | refine ss_ret ?_ | refine ss_nil ?_) | (show S _ _ _ _ _ _; first | refine s_comp (by (with_reducible assumption)) (by kernel_rfl) (by kernel_rfl) rfl ?_ | refine s_asg (by (with_reducible assumption)) rfl (by kernel_rfl) ?_ | refine s_ret ?_ | refine s_expr rfl ?_) | (show Bin _ _ _ _ _ _ _ _; first | refine bin_add ?_ | refine bin_sub ?_ | refine bin_mul ?_ ?_ | refine bin_mod ?_ ?_ | refine bin_div ?_ ?_ | refine bin_pow18 ?_ | refine bin_pow14 ?_) | (show Cmp _ _ _ _ _ _ _ _; first | refine cmp_lt ?_ | refine cmp_gt ?_ | refine cmp_eq ?_ | refine cmp_is_nn ?_ | refine cmp_is_vn rfl ?_) | (show Tru _ _ _ _ _ _; refine tru_bool ?_) | (show B _ _ _ _ _ _; first | refine b_cmp rfl ?_ | refine b_boolop ?_ | refine b_plain rfl ?_) | (show BL _ _ _ _ _ _ _; first | refine bl_or ?_ | refine bl_or_nil ?_) | (show EL _ _ _ _ _ _ _; first | refine el_one ?_ | refine el_and ?_) | (show Sub _ _ _ _ _ _ _; first | refine sb_tup ⟨by decide⟩ (by rfl) ?_ | refine sb_int (by walk_at "hp") ?_ ?_ | refine sb_scr (by (with_reducible assumption)) ?_ (by with_reducible assumption) ?_) | (show CB _ _ _ _ _ _ _; first | refine isi_rl (by walk_at "hp") ?_ | refine cb_len_scr (by (with_reducible assumption)) ?_ | refine cb_len_int (by walk_at "hp") ?_ ?_ | refine cb_append (by walk_at "hp") ?_ ?_) | (show CT _ _ _ _ _ _ _; refine ct_list_ref (by walk_at "hp") ?_ ?_) | (show If _ _ _; first | refine if_t ?_ | refine if_f ?_) | (show Rng _ _; first | refine rng1 ?_ ?_ | refine rng2 ?_ ?_))
    all_goals first | exact h _ | (first | assumption | (refine Side.mk ?_; first | assumption | decide | omega | exact .inr (by decide) | exact .inl (by decide) | exact .inr (by omega) | exact .inl (by omega) | (simp only [List.length_map, List.length_append, List.length_cons, List.length_nil, sizeLine] <;> omega)))
  repeat' (first | (show E _ _ _ _ _ _; first | refine e_name (by walk_at "nm") ?_ | refine e_int ?_ | refine e_bin ?_ | refine e_sub rfl ?_ | refine e_cmp rfl ?_ | refine e_callF (by (with_reducible assumption)) (by walk_at "gl") (by kernel_rfl) (by kernel_rfl) rfl ?_ | refine e_callB (by (with_reducible assumption)) (by walk_at "gl") (by kernel_rfl) rfl ?_ | refine e_callT (by (with_reducible assumption)) (by walk_at "gl") (by kernel_rfl) rfl ?_ | refine e_glob (by (with_reducible assumption)) (by kernel_rfl) (by walk_at "gl") ?_ | refine e_tuple ?_ | refine e_boolop ?_ | refine e_list ?_ | refine e_none ?_ | refine e_append rfl rfl rfl ?_ | refine e_comp (by (with_reducible assumption)) (by kernel_rfl) rfl ?_) | (show Sz _ _; refine sz rfl ?_) | (show Lst _ _ _; refine lst_ref (by walk_at "hp") ?_) | (show Es _ _ _ _ _ _; first | refine es_cons rfl ?_ | refine es_nil ?_) | (show Ss _ _ _ _ _ _; first | refine ss_asg ?_ | refine ss_expr ?_ | refine ss_ret ?_ | refine ss_nil ?_) | (show S _ _ _ _ _ _; first | refine s_comp (by (with_reducible assumption)) (by kernel_rfl) (by kernel_rfl) rfl ?_ | refine s_asg (by (with_reducible assumption)) rfl (by kernel_rfl) ?_ | refine s_ret ?_ | refine s_expr rfl ?_) | (show Bin _ _ _ _ _ _ _ _; first | refine bin_add ?_ | refine bin_sub ?_ | refine bin_mul ?_ ?_ | refine bin_mod ?_ ?_ | refine bin_div ?_ ?_ | refine bin_pow18 ?_ | refine bin_pow14 ?_) | (show Cmp _ _ _ _ _ _ _ _; first | refine cmp_lt ?_ | refine cmp_gt ?_ | refine cmp_eq ?_ | refine cmp_is_nn ?_ | refine cmp_is_vn rfl ?_) | (show Tru _ _ _ _ _ _; refine tru_bool ?_) | (show B _ _ _ _ _ _; first | refine b_cmp rfl ?_ | refine b_boolop ?_ | refine b_plain rfl ?_) | (show BL _ _ _ _ _ _ _; first | refine bl_or ?_ | refine bl_or_nil ?_) | (show EL _ _ _ _ _ _ _; first | refine el_one ?_ | refine el_and ?_) | (show Sub _ _ _ _ _ _ _; first | refine sb_tup ⟨by decide⟩ (by rfl) ?_ | refine sb_int (by walk_at "hp") ?_ ?_ | refine sb_scr (by (with_reducible assumption)) ?_ (by with_reducible assumption) ?_) | (show CB _ _ _ _ _ _ _; first | refine isi_rl (by walk_at "hp") ?_ | refine cb_len_scr (by (with_reducible assumption)) ?_ | refine cb_len_int (by walk_at "hp") ?_ ?_ | refine cb_append (by walk_at "hp") ?_ ?_) | (show CT _ _ _ _ _ _ _; refine ct_list_ref (by walk_at "hp") ?_ ?_) | (show If _ _ _; first | refine if_t ?_ | refine if_f ?_) | (show Rng _ _; first | refine rng1 ?_ ?_ | refine rng2 ?_ ?_))
  refine ss_if ?_
  repeat' (first | (show E _ _ _ _ _ _; first | refine e_name (by walk_at "nm") ?_ | refine e_int ?_ | refine e_bin ?_ | refine e_sub rfl ?_ | refine e_cmp rfl ?_ | refine e_callF (by (with_reducible assumption)) (by walk_at "gl") (by kernel_rfl) (by kernel_rfl) rfl ?_ | refine e_callB (by (with_reducible assumption)) (by walk_at "gl") (by kernel_rfl) rfl ?_ | refine e_callT (by (with_reducible assumption)) (by walk_at "gl") (by kernel_rfl) rfl ?_ | refine e_glob (by (with_reducible assumption)) (by kernel_rfl) (by walk_at "gl") ?_ | refine e_tuple ?_ | refine e_boolop ?_ | refine e_list ?_ | refine e_none ?_ | refine e_append rfl rfl rfl ?_ | refine e_comp (by (with_reducible assumption)) (by kernel_rfl) rfl ?_) | (show Sz _ _; refine sz rfl ?_) | (show Lst _ _ _; refine lst_ref (by walk_at "hp") ?_) | (show Es _ _ _ _ _ _; first | refine es_cons rfl ?_ | refine es_nil ?_) | (show Ss _ _ _ _ _ _; first | refine ss_asg ?_ | refine ss_expr ?_ | refine ss_ret ?_ | refine ss_nil ?_) | (show S _ _ _ _ _ _; first | refine s_comp (by (with_reducible assumption)) (by kernel_rfl) (by kernel_rfl) rfl ?_ | refine s_asg (by (with_reducible assumption)) rfl (by kernel_rfl) ?_ | refine s_ret ?_ | refine s_expr rfl ?_) | (show Bin _ _ _ _ _ _ _ _; first | refine bin_add ?_ | refine bin_sub ?_ | refine bin_mul ?_ ?_ | refine bin_mod ?_ ?_ | refine bin_div ?_ ?_ | refine bin_pow18 ?_ | refine bin_pow14 ?_) | (show Cmp _ _ _ _ _ _ _ _; first | refine cmp_lt ?_ | refine cmp_gt ?_ | refine cmp_eq ?_ | refine cmp_is_nn ?_ | refine cmp_is_vn rfl ?_) | (show Tru _ _ _ _ _ _; refine tru_bool ?_) | (show B _ _ _ _ _ _; first | refine b_cmp rfl ?_ | refine b_boolop ?_ | refine b_plain rfl ?_) | (show BL _ _ _ _ _ _ _; first | refine bl_or ?_ | refine bl_or_nil ?_) | (show EL _ _ _ _ _ _ _; first | refine el_one ?_ | refine el_and ?_) | (show Sub _ _ _ _ _ _ _; first | refine sb_tup ⟨by decide⟩ (by rfl) ?_ | refine sb_int (by walk_at "hp") ?_ ?_ | refine sb_scr (by (with_reducible assumption)) ?_ (by with_reducible assumption) ?_) | (show CB _ _ _ _ _ _ _; first | refine isi_rl (by walk_at "hp") ?_ | refine cb_len_scr (by (with_reducible assumption)) ?_ | refine cb_len_int (by walk_at "hp") ?_ ?_ | refine cb_append (by walk_at "hp") ?_ ?_) | (show CT _ _ _ _ _ _ _; refine ct_list_ref (by walk_at "hp") ?_ ?_) | (show If _ _ _; first | refine if_t ?_ | refine if_f ?_) | (show Rng _ _; first | refine rng1 ?_ ?_ | refine rng2 ?_ ?_))
  refine if_decide (fun q => ?_) (fun q => ?_)
  · repeat' (first | (show E _ _ _ _ _ _; first | refine e_name (by walk_at "nm") ?_ | refine e_int ?_ | refine e_bin ?_ | refine e_sub rfl ?_ | refine e_cmp rfl ?_ | refine e_callF (by (with_reducible assumption)) (by walk_at "gl") (by kernel_rfl) (by kernel_rfl) rfl ?_ | refine e_callB (by (with_reducible assumption)) (by walk_at "gl") (by kernel_rfl) rfl ?_ | refine e_callT (by (with_reducible assumption)) (by walk_at "gl") (by kernel_rfl) rfl ?_ | refine e_glob (by (with_reducible assumption)) (by kernel_rfl) (by walk_at "gl") ?_ | refine e_tuple ?_ | refine e_boolop ?_ | refine e_list ?_ | refine e_none ?_ | refine e_append rfl rfl rfl ?_ | refine e_comp (by (with_reducible assumption)) (by kernel_rfl) rfl ?_) | (show Sz _ _; refine sz rfl ?_) | (show Lst _ _ _; refine lst_ref (by walk_at "hp") ?_) | (show Es _ _ _ _ _ _; first | refine es_cons rfl ?_ | refine es_nil ?_) | (show Ss _ _ _ _ _ _; first | refine ss_asg ?_ | refine ss_expr ?_ | refine ss_ret ?_ | refine ss_nil ?_) | (show S _ _ _ _ _ _; first | refine s_comp (by (with_reducible assumption)) (by kernel_rfl) (by kernel_rfl) rfl ?_ | refine s_asg (by (with_reducible assumption)) rfl (by kernel_rfl) ?_ | refine s_ret ?_ | refine s_expr rfl ?_) | (show Bin _ _ _ _ _ _ _ _; first | refine bin_add ?_ | refine bin_sub ?_ | refine bin_mul ?_ ?_ | refine bin_mod ?_ ?_ | refine bin_div ?_ ?_ | refine bin_pow18 ?_ | refine bin_pow14 ?_) | (show Cmp _ _ _ _ _ _ _ _; first | refine cmp_lt ?_ | refine cmp_gt ?_ | refine cmp_eq ?_ | refine cmp_is_nn ?_ | refine cmp_is_vn rfl ?_) | (show Tru _ _ _ _ _ _; refine tru_bool ?_) | (show B _ _ _ _ _ _; first | refine b_cmp rfl ?_ | refine b_boolop ?_ | refine b_plain rfl ?_) | (show BL _ _ _ _ _ _ _; first | refine bl_or ?_ | refine bl_or_nil ?_) | (show EL _ _ _ _ _ _ _; first | refine el_one ?_ | refine el_and ?_) | (show Sub _ _ _ _ _ _ _; first | refine sb_tup ⟨by decide⟩ (by rfl) ?_ | refine sb_int (by walk_at "hp") ?_ ?_ | refine sb_scr (by (with_reducible assumption)) ?_ (by with_reducible assumption) ?_) | (show CB _ _ _ _ _ _ _; first | refine isi_rl (by walk_at "hp") ?_ | refine cb_len_scr (by (with_reducible assumption)) ?_ | refine cb_len_int (by walk_at "hp") ?_ ?_ | refine cb_append (by walk_at "hp") ?_ ?_) | (show CT _ _ _ _ _ _ _; refine ct_list_ref (by walk_at "hp") ?_ ?_) | (show If _ _ _; first | refine if_t ?_ | refine if_f ?_) | (show Rng _ _; first | refine rng1 ?_ ?_ | refine rng2 ?_ ?_))
    all_goals first | exact h _ | (first | assumption | (refine Side.mk ?_; first | assumption | decide | omega | exact .inr (by decide) | exact .inl (by decide) | exact .inr (by omega) | exact .inl (by omega) | (simp only [List.length_map, List.length_append, List.length_cons, List.length_nil, sizeLine] <;> omega))) | exact ⟨.inr (by have := s.h; omega)⟩
  repeat' (first | (show E _ _ _ _ _ _; first | refine e_name (by walk_at "nm") ?_ | refine e_int ?_ | refine e_bin ?_ | refine e_sub rfl ?_ | refine e_cmp rfl ?_ | refine e_callF (by (with_reducible assumption)) (by walk_at "gl") (by kernel_rfl) (by kernel_rfl) rfl ?_ | refine e_callB (by (with_reducible assumption)) (by walk_at "gl") (by kernel_rfl) rfl ?_ | refine e_callT (by (with_reducible assumption)) (by walk_at "gl") (by kernel_rfl) rfl ?_ | refine e_glob (by (with_reducible assumption)) (by kernel_rfl) (by walk_at "gl") ?_ | refine e_tuple ?_ | refine e_boolop ?_ | refine e_list ?_ | refine e_none ?_ | refine e_append rfl rfl rfl ?_ | refine e_comp (by (with_reducible assumption)) (by kernel_rfl) rfl ?_) | (show Sz _ _; refine sz rfl ?_) | (show Lst _ _ _; refine lst_ref (by walk_at "hp") ?_) | (show Es _ _ _ _ _ _; first | refine es_cons rfl ?_ | refine es_nil ?_) | (show Ss _ _ _ _ _ _; first | refine ss_asg ?_ | refine ss_expr ?_ | refine ss_ret ?_ | refine ss_nil ?_) | (show S _ _ _ _ _ _; first | refine s_comp (by (with_reducible assumption)) (by kernel_rfl) (by kernel_rfl) rfl ?_ | refine s_asg (by (with_reducible assumption)) rfl (by kernel_rfl) ?_ | refine s_ret ?_ | refine s_expr rfl ?_) | (show Bin _ _ _ _ _ _ _ _; first | refine bin_add ?_ | refine bin_sub ?_ | refine bin_mul ?_ ?_ | refine bin_mod ?_ ?_ | refine bin_div ?_ ?_ | refine bin_pow18 ?_ | refine bin_pow14 ?_) | (show Cmp _ _ _ _ _ _ _ _; first | refine cmp_lt ?_ | refine cmp_gt ?_ | refine cmp_eq ?_ | refine cmp_is_nn ?_ | refine cmp_is_vn rfl ?_) | (show Tru _ _ _ _ _ _; refine tru_bool ?_) | (show B _ _ _ _ _ _; first | refine b_cmp rfl ?_ | refine b_boolop ?_ | refine b_plain rfl ?_) | (show BL _ _ _ _ _ _ _; first | refine bl_or ?_ | refine bl_or_nil ?_) | (show EL _ _ _ _ _ _ _; first | refine el_one ?_ | refine el_and ?_) | (show Sub _ _ _ _ _ _ _; first | refine sb_tup ⟨by decide⟩ (by rfl) ?_ | refine sb_int (by walk_at "hp") ?_ ?_ | refine sb_scr (by (with_reducible assumption)) ?_ (by with_reducible assumption) ?_) | (show CB _ _ _ _ _ _ _; first | refine isi_rl (by walk_at "hp") ?_ | refine cb_len_scr (by (with_reducible assumption)) ?_ | refine cb_len_int (by walk_at "hp") ?_ ?_ | refine cb_append (by walk_at "hp") ?_ ?_) | (show CT _ _ _ _ _ _ _; refine ct_list_ref (by walk_at "hp") ?_ ?_) | (show If _ _ _; first | refine if_t ?_ | refine if_f ?_) | (show Rng _ _; first | refine rng1 ?_ ?_ | refine rng2 ?_ ?_))
  all_goals first | exact h _ | (first | assumption | (refine Side.mk ?_; first | assumption | decide | omega | exact .inr (by decide) | exact .inl (by decide) | exact .inr (by omega) | exact .inl (by omega) | (simp only [List.length_map, List.length_append, List.length_cons, List.length_nil, sizeLine] <;> omega)))

theorem land_by_ok {X : Value → List O → Prop} {Q : V → List O → Prop} {hp : List O} {m : Int} (hn : ns.length < 2 ^ 62) (hm : Side (0 < m ∧ m < 1000)) (h : ∀ xs : List Int, 1 ≤ xs.length → (xs.length : Int) ≤ m → Q (.ref hp.length) (hp ++ [.list (xs.map .int)])) : CallOK (pgo prog w p loose mean mg mb) (lev + 2) true ns 68 [.scr, .int m] hp X Q := by
  refine fn_run (xs := ["_law_script", "_law_most"]) (fnAt_of rfl (by kernel_rfl) (fn2 fun _ _ => rfl) (by decide) (by decide) rfl rfl rfl) rfl (by decide +kernel) fun c hc => ?_
  have hm' := hm.h
  repeat' (first | (first | (show E _ _ _ _ _ _; first | refine e_name (by walk_at "nm") ?_ | refine e_int ?_ | refine e_bin ?_ | refine e_sub rfl ?_ | refine e_cmp rfl ?_ | refine e_callF (by (with_reducible assumption)) (by walk_at "gl") (by kernel_rfl) (by kernel_rfl) rfl ?_ | refine e_callB (by (with_reducible assumption)) (by walk_at "gl") (by kernel_rfl) rfl ?_ | refine e_callT (by (with_reducible assumption)) (by walk_at "gl") (by kernel_rfl) rfl ?_ | refine e_glob (by (with_reducible assumption)) (by kernel_rfl) (by walk_at "gl") ?_ | refine e_tuple ?_ | refine e_boolop ?_ | refine e_list ?_ | refine e_none ?_ | refine e_append rfl rfl rfl ?_ | refine e_comp (by (with_reducible assumption)) (by kernel_rfl) rfl ?_) | (show Sz _ _; refine sz rfl ?_) | (show Lst _ _ _; refine lst_ref (by walk_at "hp") ?_) | (show Es _ _ _ _ _ _; first | refine es_cons rfl ?_ | refine es_nil ?_) | (show Ss _ _ _ _ _ _; first | refine ss_asg ?_ | refine ss_expr ?_ | refine ss_ret ?_ | refine ss_nil ?_) | (show S _ _ _ _ _ _; first | refine s_comp (by (with_reducible assumption)) (by kernel_rfl) (by kernel_rfl) rfl ?_ | refine s_asg (by (with_reducible assumption)) rfl (by kernel_rfl) ?_ | refine s_ret ?_ | refine s_expr rfl ?_) | (show Bin _ _ _ _ _ _ _ _; first | refine bin_add ?_ | refine bin_sub ?_ | refine bin_mul ?_ ?_ | refine bin_mod ?_ ?_ | refine bin_div ?_ ?_ | refine bin_pow18 ?_ | refine bin_pow14 ?_) | (show Cmp _ _ _ _ _ _ _ _; first | refine cmp_lt ?_ | refine cmp_gt ?_ | refine cmp_eq ?_ | refine cmp_is_nn ?_ | refine cmp_is_vn rfl ?_) | (show Tru _ _ _ _ _ _; refine tru_bool ?_) | (show B _ _ _ _ _ _; first | refine b_cmp rfl ?_ | refine b_boolop ?_ | refine b_plain rfl ?_) | (show BL _ _ _ _ _ _ _; first | refine bl_or ?_ | refine bl_or_nil ?_) | (show EL _ _ _ _ _ _ _; first | refine el_one ?_ | refine el_and ?_) | (show Sub _ _ _ _ _ _ _; first | refine sb_tup ⟨by decide⟩ (by rfl) ?_ | refine sb_int (by walk_at "hp") ?_ ?_ | refine sb_scr (by (with_reducible assumption)) ?_ (by with_reducible assumption) ?_) | (show CB _ _ _ _ _ _ _; first | refine isi_rl (by walk_at "hp") ?_ | refine cb_len_scr (by (with_reducible assumption)) ?_ | refine cb_len_int (by walk_at "hp") ?_ ?_ | refine cb_append (by walk_at "hp") ?_ ?_) | (show CT _ _ _ _ _ _ _; refine ct_list_ref (by walk_at "hp") ?_ ?_) | (show If _ _ _; first | refine if_t ?_ | refine if_f ?_) | (show Rng _ _; first | refine rng1 ?_ ?_ | refine rng2 ?_ ?_)) | refine cell_at_ok hn ?_ ?_)
  all_goals try (first | assumption | (refine Side.mk ?_; first | assumption | decide | omega | exact .inr (by decide) | exact .inl (by decide) | exact .inr (by omega) | exact .inl (by omega) | (simp only [List.length_map, List.length_append, List.length_cons, List.length_nil, sizeLine] <;> omega)))
  refine i_range (by (with_reducible assumption)) gl_range (by kernel_rfl) rfl ?_
  have m1 := Int.emod_lt_of_pos (cell ns 0) (b := m) (by omega)
  have m2 := Int.emod_nonneg (cell ns 0) (b := m) (by omega)
  repeat' (first | (show E _ _ _ _ _ _; first | refine e_name (by walk_at "nm") ?_ | refine e_int ?_ | refine e_bin ?_ | refine e_sub rfl ?_ | refine e_cmp rfl ?_ | refine e_callF (by (with_reducible assumption)) (by walk_at "gl") (by kernel_rfl) (by kernel_rfl) rfl ?_ | refine e_callB (by (with_reducible assumption)) (by walk_at "gl") (by kernel_rfl) rfl ?_ | refine e_callT (by (with_reducible assumption)) (by walk_at "gl") (by kernel_rfl) rfl ?_ | refine e_glob (by (with_reducible assumption)) (by kernel_rfl) (by walk_at "gl") ?_ | refine e_tuple ?_ | refine e_boolop ?_ | refine e_list ?_ | refine e_none ?_ | refine e_append rfl rfl rfl ?_ | refine e_comp (by (with_reducible assumption)) (by kernel_rfl) rfl ?_) | (show Sz _ _; refine sz rfl ?_) | (show Lst _ _ _; refine lst_ref (by walk_at "hp") ?_) | (show Es _ _ _ _ _ _; first | refine es_cons rfl ?_ | refine es_nil ?_) | (show Ss _ _ _ _ _ _; first | refine ss_asg ?_ | refine ss_expr ?_ | refine ss_ret ?_ | refine ss_nil ?_) | (show S _ _ _ _ _ _; first | refine s_comp (by (with_reducible assumption)) (by kernel_rfl) (by kernel_rfl) rfl ?_ | refine s_asg (by (with_reducible assumption)) rfl (by kernel_rfl) ?_ | refine s_ret ?_ | refine s_expr rfl ?_) | (show Bin _ _ _ _ _ _ _ _; first | refine bin_add ?_ | refine bin_sub ?_ | refine bin_mul ?_ ?_ | refine bin_mod ?_ ?_ | refine bin_div ?_ ?_ | refine bin_pow18 ?_ | refine bin_pow14 ?_) | (show Cmp _ _ _ _ _ _ _ _; first | refine cmp_lt ?_ | refine cmp_gt ?_ | refine cmp_eq ?_ | refine cmp_is_nn ?_ | refine cmp_is_vn rfl ?_) | (show Tru _ _ _ _ _ _; refine tru_bool ?_) | (show B _ _ _ _ _ _; first | refine b_cmp rfl ?_ | refine b_boolop ?_ | refine b_plain rfl ?_) | (show BL _ _ _ _ _ _ _; first | refine bl_or ?_ | refine bl_or_nil ?_) | (show EL _ _ _ _ _ _ _; first | refine el_one ?_ | refine el_and ?_) | (show Sub _ _ _ _ _ _ _; first | refine sb_tup ⟨by decide⟩ (by rfl) ?_ | refine sb_int (by walk_at "hp") ?_ ?_ | refine sb_scr (by (with_reducible assumption)) ?_ (by with_reducible assumption) ?_) | (show CB _ _ _ _ _ _ _; first | refine isi_rl (by walk_at "hp") ?_ | refine cb_len_scr (by (with_reducible assumption)) ?_ | refine cb_len_int (by walk_at "hp") ?_ ?_ | refine cb_append (by walk_at "hp") ?_ ?_) | (show CT _ _ _ _ _ _ _; refine ct_list_ref (by walk_at "hp") ?_ ?_) | (show If _ _ _; first | refine if_t ?_ | refine if_f ?_) | (show Rng _ _; first | refine rng1 ?_ ?_ | refine rng2 ?_ ?_))
  · (first | assumption | (refine Side.mk ?_; first | assumption | decide | omega | exact .inr (by decide) | exact .inl (by decide) | exact .inr (by omega) | exact .inl (by omega) | (simp only [List.length_map, List.length_append, List.length_cons, List.length_nil, sizeLine] <;> omega)))
  refine comp_ints (by (with_reducible assumption)) (by kernel_rfl) (fun _ _ => True) ?_ (fun _ => trivial) ?_ ?_
  · rw [rngItems_length, sizeLine_eq]; omega
  · intro k hk vs hv
    refine ⟨_, tgt1, fun c' hc' => ?_⟩
    rw [rngItems_get]
    rw [rngItems_length] at hk
    repeat' (first | (first | (show E _ _ _ _ _ _; first | refine e_name (by walk_at "nm") ?_ | refine e_int ?_ | refine e_bin ?_ | refine e_sub rfl ?_ | refine e_cmp rfl ?_ | refine e_callF (by (with_reducible assumption)) (by walk_at "gl") (by kernel_rfl) (by kernel_rfl) rfl ?_ | refine e_callB (by (with_reducible assumption)) (by walk_at "gl") (by kernel_rfl) rfl ?_ | refine e_callT (by (with_reducible assumption)) (by walk_at "gl") (by kernel_rfl) rfl ?_ | refine e_glob (by (with_reducible assumption)) (by kernel_rfl) (by walk_at "gl") ?_ | refine e_tuple ?_ | refine e_boolop ?_ | refine e_list ?_ | refine e_none ?_ | refine e_append rfl rfl rfl ?_ | refine e_comp (by (with_reducible assumption)) (by kernel_rfl) rfl ?_) | (show Sz _ _; refine sz rfl ?_) | (show Lst _ _ _; refine lst_ref (by walk_at "hp") ?_) | (show Es _ _ _ _ _ _; first | refine es_cons rfl ?_ | refine es_nil ?_) | (show Ss _ _ _ _ _ _; first | refine ss_asg ?_ | refine ss_expr ?_ | refine ss_ret ?_ | refine ss_nil ?_) | (show S _ _ _ _ _ _; first | refine s_comp (by (with_reducible assumption)) (by kernel_rfl) (by kernel_rfl) rfl ?_ | refine s_asg (by (with_reducible assumption)) rfl (by kernel_rfl) ?_ | refine s_ret ?_ | refine s_expr rfl ?_) | (show Bin _ _ _ _ _ _ _ _; first | refine bin_add ?_ | refine bin_sub ?_ | refine bin_mul ?_ ?_ | refine bin_mod ?_ ?_ | refine bin_div ?_ ?_ | refine bin_pow18 ?_ | refine bin_pow14 ?_) | (show Cmp _ _ _ _ _ _ _ _; first | refine cmp_lt ?_ | refine cmp_gt ?_ | refine cmp_eq ?_ | refine cmp_is_nn ?_ | refine cmp_is_vn rfl ?_) | (show Tru _ _ _ _ _ _; refine tru_bool ?_) | (show B _ _ _ _ _ _; first | refine b_cmp rfl ?_ | refine b_boolop ?_ | refine b_plain rfl ?_) | (show BL _ _ _ _ _ _ _; first | refine bl_or ?_ | refine bl_or_nil ?_) | (show EL _ _ _ _ _ _ _; first | refine el_one ?_ | refine el_and ?_) | (show Sub _ _ _ _ _ _ _; first | refine sb_tup ⟨by decide⟩ (by rfl) ?_ | refine sb_int (by walk_at "hp") ?_ ?_ | refine sb_scr (by (with_reducible assumption)) ?_ (by with_reducible assumption) ?_) | (show CB _ _ _ _ _ _ _; first | refine isi_rl (by walk_at "hp") ?_ | refine cb_len_scr (by (with_reducible assumption)) ?_ | refine cb_len_int (by walk_at "hp") ?_ ?_ | refine cb_append (by walk_at "hp") ?_ ?_) | (show CT _ _ _ _ _ _ _; refine ct_list_ref (by walk_at "hp") ?_ ?_) | (show If _ _ _; first | refine if_t ?_ | refine if_f ?_) | (show Rng _ _; first | refine rng1 ?_ ?_ | refine rng2 ?_ ?_)) | refine cell_at_ok hn ?_ ?_ | refine height_by_ok ?_ (fun x => ?_))
    all_goals first | (first | assumption | (refine Side.mk ?_; first | assumption | decide | omega | exact .inr (by decide) | exact .inl (by decide) | exact .inr (by omega) | exact .inl (by omega) | (simp only [List.length_map, List.length_append, List.length_cons, List.length_nil, sizeLine] <;> omega))) | exact ⟨rfl, _, rfl, trivial⟩
  · intro ys hy _
    rw [rngItems_length] at hy
    exact h ys (by omega) (by omega)

def topV (f : Int → Int) (a : Int) : Option Int → V
  | none => .none
  | some q => .tup [.int (f q - f a), .int (q - a)]
theorem lat_succ (f : Int → Int) (a : Int) (k : Nat) : lat f a (k + 1) = match (lat f a k).getLast? with | none => lat f a k ++ [a + 1 + k] | some q => if Bl f a q (a + 1 + k) then lat f a k ++ [a + 1 + k] else lat f a k := rfl
theorem lat_len (f : Int → Int) (a : Int) : ∀ k : Nat, (lat f a k).length ≤ k
  | 0 => Nat.le_refl _
  | k + 1 => by
    have := lat_len f a k
    rw [lat_succ]
    split
    · simp; omega
    · split <;> simp <;> omega
theorem set_new {hp : List O} {a b : O} : (hp ++ [a]).set hp.length b = hp ++ [b] := by simp
theorem map_app (xs : List Int) (x : Int) : xs.map V.int ++ [.int x] = (xs ++ [x]).map V.int := by simp
theorem seen_later_ok {X : Value → List O → Prop} {Q : V → List O → Prop} {hp : List O} {i : Nat} {xs : List Int} {a : Int} (hx : hp[i]? = some (.list (xs.map .int))) (s : Side (0 ≤ a ∧ a < xs.length ∧ xs.length < 2 ^ 20)) (h : Q (.ref hp.length) (hp ++ [.list ((lat (g xs) a (xs.length - 1 - a).toNat).map .int)])) : CallOK (pgo prog w p loose mean mg mb) (lev + 2) true ns 35 [.ref i, .int a] hp X Q := by
  refine fn_run (xs := ["land", "a"]) (fnAt_of rfl (by kernel_rfl) (fn2 fun _ _ => rfl) (by decide) (by decide) rfl rfl rfl) rfl (by decide +kernel) fun c hc => ?_
  have s' := s.h
  repeat' (first | (show E _ _ _ _ _ _; first | refine e_name (by walk_at "nm") ?_ | refine e_int ?_ | refine e_bin ?_ | refine e_sub rfl ?_ | refine e_cmp rfl ?_ | refine e_callF (by (with_reducible assumption)) (by walk_at "gl") (by kernel_rfl) (by kernel_rfl) rfl ?_ | refine e_callB (by (with_reducible assumption)) (by walk_at "gl") (by kernel_rfl) rfl ?_ | refine e_callT (by (with_reducible assumption)) (by walk_at "gl") (by kernel_rfl) rfl ?_ | refine e_glob (by (with_reducible assumption)) (by kernel_rfl) (by walk_at "gl") ?_ | refine e_tuple ?_ | refine e_boolop ?_ | refine e_list ?_ | refine e_none ?_ | refine e_append rfl rfl rfl ?_ | refine e_comp (by (with_reducible assumption)) (by kernel_rfl) rfl ?_) | (show Sz _ _; refine sz rfl ?_) | (show Lst _ _ _; refine lst_ref (by walk_at "hp") ?_) | (show Es _ _ _ _ _ _; first | refine es_cons rfl ?_ | refine es_nil ?_) | (show Ss _ _ _ _ _ _; first | refine ss_asg ?_ | refine ss_expr ?_ | refine ss_ret ?_ | refine ss_nil ?_) | (show S _ _ _ _ _ _; first | refine s_comp (by (with_reducible assumption)) (by kernel_rfl) (by kernel_rfl) rfl ?_ | refine s_asg (by (with_reducible assumption)) rfl (by kernel_rfl) ?_ | refine s_ret ?_ | refine s_expr rfl ?_) | (show Bin _ _ _ _ _ _ _ _; first | refine bin_add ?_ | refine bin_sub ?_ | refine bin_mul ?_ ?_ | refine bin_mod ?_ ?_ | refine bin_div ?_ ?_ | refine bin_pow18 ?_ | refine bin_pow14 ?_) | (show Cmp _ _ _ _ _ _ _ _; first | refine cmp_lt ?_ | refine cmp_gt ?_ | refine cmp_eq ?_ | refine cmp_is_nn ?_ | refine cmp_is_vn rfl ?_) | (show Tru _ _ _ _ _ _; refine tru_bool ?_) | (show B _ _ _ _ _ _; first | refine b_cmp rfl ?_ | refine b_boolop ?_ | refine b_plain rfl ?_) | (show BL _ _ _ _ _ _ _; first | refine bl_or ?_ | refine bl_or_nil ?_) | (show EL _ _ _ _ _ _ _; first | refine el_one ?_ | refine el_and ?_) | (show Sub _ _ _ _ _ _ _; first | refine sb_tup ⟨by decide⟩ (by rfl) ?_ | refine sb_int (by walk_at "hp") ?_ ?_ | refine sb_scr (by (with_reducible assumption)) ?_ (by with_reducible assumption) ?_) | (show CB _ _ _ _ _ _ _; first | refine isi_rl (by walk_at "hp") ?_ | refine cb_len_scr (by (with_reducible assumption)) ?_ | refine cb_len_int (by walk_at "hp") ?_ ?_ | refine cb_append (by walk_at "hp") ?_ ?_) | (show CT _ _ _ _ _ _ _; refine ct_list_ref (by walk_at "hp") ?_ ?_) | (show If _ _ _; first | refine if_t ?_ | refine if_f ?_) | (show Rng _ _; first | refine rng1 ?_ ?_ | refine rng2 ?_ ?_))
  refine ss_cut (fun l hp' => hp' = hp ++ [.list ((lat (g xs) a (xs.length - 1 - a).toNat).map .int)] ∧ l "found" = some (.ref hp.length)) ?_ ?_
  · refine s_for1 (by (with_reducible assumption)) (by kernel_rfl) rfl ?_
    refine i_range (by (with_reducible assumption)) gl_range (by kernel_rfl) rfl ?_
    repeat' (first | (show E _ _ _ _ _ _; first | refine e_name (by walk_at "nm") ?_ | refine e_int ?_ | refine e_bin ?_ | refine e_sub rfl ?_ | refine e_cmp rfl ?_ | refine e_callF (by (with_reducible assumption)) (by walk_at "gl") (by kernel_rfl) (by kernel_rfl) rfl ?_ | refine e_callB (by (with_reducible assumption)) (by walk_at "gl") (by kernel_rfl) rfl ?_ | refine e_callT (by (with_reducible assumption)) (by walk_at "gl") (by kernel_rfl) rfl ?_ | refine e_glob (by (with_reducible assumption)) (by kernel_rfl) (by walk_at "gl") ?_ | refine e_tuple ?_ | refine e_boolop ?_ | refine e_list ?_ | refine e_none ?_ | refine e_append rfl rfl rfl ?_ | refine e_comp (by (with_reducible assumption)) (by kernel_rfl) rfl ?_) | (show Sz _ _; refine sz rfl ?_) | (show Lst _ _ _; refine lst_ref (by walk_at "hp") ?_) | (show Es _ _ _ _ _ _; first | refine es_cons rfl ?_ | refine es_nil ?_) | (show Ss _ _ _ _ _ _; first | refine ss_asg ?_ | refine ss_expr ?_ | refine ss_ret ?_ | refine ss_nil ?_) | (show S _ _ _ _ _ _; first | refine s_comp (by (with_reducible assumption)) (by kernel_rfl) (by kernel_rfl) rfl ?_ | refine s_asg (by (with_reducible assumption)) rfl (by kernel_rfl) ?_ | refine s_ret ?_ | refine s_expr rfl ?_) | (show Bin _ _ _ _ _ _ _ _; first | refine bin_add ?_ | refine bin_sub ?_ | refine bin_mul ?_ ?_ | refine bin_mod ?_ ?_ | refine bin_div ?_ ?_ | refine bin_pow18 ?_ | refine bin_pow14 ?_) | (show Cmp _ _ _ _ _ _ _ _; first | refine cmp_lt ?_ | refine cmp_gt ?_ | refine cmp_eq ?_ | refine cmp_is_nn ?_ | refine cmp_is_vn rfl ?_) | (show Tru _ _ _ _ _ _; refine tru_bool ?_) | (show B _ _ _ _ _ _; first | refine b_cmp rfl ?_ | refine b_boolop ?_ | refine b_plain rfl ?_) | (show BL _ _ _ _ _ _ _; first | refine bl_or ?_ | refine bl_or_nil ?_) | (show EL _ _ _ _ _ _ _; first | refine el_one ?_ | refine el_and ?_) | (show Sub _ _ _ _ _ _ _; first | refine sb_tup ⟨by decide⟩ (by rfl) ?_ | refine sb_int (by walk_at "hp") ?_ ?_ | refine sb_scr (by (with_reducible assumption)) ?_ (by with_reducible assumption) ?_) | (show CB _ _ _ _ _ _ _; first | refine isi_rl (by walk_at "hp") ?_ | refine cb_len_scr (by (with_reducible assumption)) ?_ | refine cb_len_int (by walk_at "hp") ?_ ?_ | refine cb_append (by walk_at "hp") ?_ ?_) | (show CT _ _ _ _ _ _ _; refine ct_list_ref (by walk_at "hp") ?_ ?_) | (show If _ _ _; first | refine if_t ?_ | refine if_f ?_) | (show Rng _ _; first | refine rng1 ?_ ?_ | refine rng2 ?_ ?_))
    all_goals try (first | assumption | (refine Side.mk ?_; first | assumption | decide | omega | exact .inr (by decide) | exact .inl (by decide) | exact .inr (by omega) | exact .inl (by omega) | (simp only [List.length_map, List.length_append, List.length_cons, List.length_nil, sizeLine] <;> omega)))
    refine ⟨fun k l hp' => hp' = hp ++ [.list ((lat (g xs) a k).map .int)] ∧ l "found" = some (.ref hp.length) ∧ l "top" = some (topV (g xs) a (lat (g xs) a k).getLast?) ∧ l "land" = some (.ref i) ∧ l "a" = some (.int a), ⟨rfl, by walk_at "nm", by rw [show topV (g xs) a (lat (g xs) a 0).getLast? = V.none from rfl]; walk_at "nm", by walk_at "nm", by walk_at "nm"⟩, fun _ _ _ _ => trivial, ?_, ?_⟩
    · rintro k hk l hp' ⟨rfl, g1, g2, g3, g4⟩
      rw [rngItems_get]
      rw [rngItems_length] at hk
      have lo := lat_ok (g xs) a k
      have ll := lat_len (g xs) a k
      have le := lat_succ (g xs) a k
      have hxa : (hp ++ [O.list ((lat (g xs) a k).map V.int)])[i]? = some (.list (xs.map .int)) := app_get hx
      have sl : Side (0 ≤ a ∧ a < xs.length ∧ 0 ≤ a + 1 + (k : Int) ∧ a + 1 + (k : Int) < xs.length ∧ xs.length < 2 ^ 62) := ⟨by omega⟩
      have sa : Side (((lat (g xs) a k).map V.int).length ≤ sizeLine) := ⟨by rw [List.length_map, sizeLine_eq]; omega⟩
      repeat' (first | (first | (show E _ _ _ _ _ _; first | refine e_name (by walk_at "nm") ?_ | refine e_int ?_ | refine e_bin ?_ | refine e_sub rfl ?_ | refine e_cmp rfl ?_ | refine e_callF (by (with_reducible assumption)) (by walk_at "gl") (by kernel_rfl) (by kernel_rfl) rfl ?_ | refine e_callB (by (with_reducible assumption)) (by walk_at "gl") (by kernel_rfl) rfl ?_ | refine e_callT (by (with_reducible assumption)) (by walk_at "gl") (by kernel_rfl) rfl ?_ | refine e_glob (by (with_reducible assumption)) (by kernel_rfl) (by walk_at "gl") ?_ | refine e_tuple ?_ | refine e_boolop ?_ | refine e_list ?_ | refine e_none ?_ | refine e_append rfl rfl rfl ?_ | refine e_comp (by (with_reducible assumption)) (by kernel_rfl) rfl ?_) | (show Sz _ _; refine sz rfl ?_) | (show Lst _ _ _; refine lst_ref (by walk_at "hp") ?_) | (show Es _ _ _ _ _ _; first | refine es_cons rfl ?_ | refine es_nil ?_) | (show Ss _ _ _ _ _ _; first | refine ss_asg ?_ | refine ss_expr ?_ | refine ss_ret ?_ | refine ss_nil ?_) | (show S _ _ _ _ _ _; first | refine s_comp (by (with_reducible assumption)) (by kernel_rfl) (by kernel_rfl) rfl ?_ | refine s_asg (by (with_reducible assumption)) rfl (by kernel_rfl) ?_ | refine s_ret ?_ | refine s_expr rfl ?_) | (show Bin _ _ _ _ _ _ _ _; first | refine bin_add ?_ | refine bin_sub ?_ | refine bin_mul ?_ ?_ | refine bin_mod ?_ ?_ | refine bin_div ?_ ?_ | refine bin_pow18 ?_ | refine bin_pow14 ?_) | (show Cmp _ _ _ _ _ _ _ _; first | refine cmp_lt ?_ | refine cmp_gt ?_ | refine cmp_eq ?_ | refine cmp_is_nn ?_ | refine cmp_is_vn rfl ?_) | (show Tru _ _ _ _ _ _; refine tru_bool ?_) | (show B _ _ _ _ _ _; first | refine b_cmp rfl ?_ | refine b_boolop ?_ | refine b_plain rfl ?_) | (show BL _ _ _ _ _ _ _; first | refine bl_or ?_ | refine bl_or_nil ?_) | (show EL _ _ _ _ _ _ _; first | refine el_one ?_ | refine el_and ?_) | (show Sub _ _ _ _ _ _ _; first | refine sb_tup ⟨by decide⟩ (by rfl) ?_ | refine sb_int (by walk_at "hp") ?_ ?_ | refine sb_scr (by (with_reducible assumption)) ?_ (by with_reducible assumption) ?_) | (show CB _ _ _ _ _ _ _; first | refine isi_rl (by walk_at "hp") ?_ | refine cb_len_scr (by (with_reducible assumption)) ?_ | refine cb_len_int (by walk_at "hp") ?_ ?_ | refine cb_append (by walk_at "hp") ?_ ?_) | (show CT _ _ _ _ _ _ _; refine ct_list_ref (by walk_at "hp") ?_ ?_) | (show If _ _ _; first | refine if_t ?_ | refine if_f ?_) | (show Rng _ _; first | refine rng1 ?_ ?_ | refine rng2 ?_ ?_)) | refine slope_ok hxa sl ?_)
      refine ss_if ?_
      rcases lo with ⟨e, rfl⟩ | ⟨q, e, h1, h2, h3⟩
      · rw [e] at g2 le ⊢
        dsimp only [List.getLast?_nil] at g2 le
        have g2' : l "top" = some V.none := g2
        repeat' (first | (show E _ _ _ _ _ _; first | refine e_name (by walk_at "nm") ?_ | refine e_int ?_ | refine e_bin ?_ | refine e_sub rfl ?_ | refine e_cmp rfl ?_ | refine e_callF (by (with_reducible assumption)) (by walk_at "gl") (by kernel_rfl) (by kernel_rfl) rfl ?_ | refine e_callB (by (with_reducible assumption)) (by walk_at "gl") (by kernel_rfl) rfl ?_ | refine e_callT (by (with_reducible assumption)) (by walk_at "gl") (by kernel_rfl) rfl ?_ | refine e_glob (by (with_reducible assumption)) (by kernel_rfl) (by walk_at "gl") ?_ | refine e_tuple ?_ | refine e_boolop ?_ | refine e_list ?_ | refine e_none ?_ | refine e_append rfl rfl rfl ?_ | refine e_comp (by (with_reducible assumption)) (by kernel_rfl) rfl ?_) | (show Sz _ _; refine sz rfl ?_) | (show Lst _ _ _; refine lst_ref (by walk_at "hp") ?_) | (show Es _ _ _ _ _ _; first | refine es_cons rfl ?_ | refine es_nil ?_) | (show Ss _ _ _ _ _ _; first | refine ss_asg ?_ | refine ss_expr ?_ | refine ss_ret ?_ | refine ss_nil ?_) | (show S _ _ _ _ _ _; first | refine s_comp (by (with_reducible assumption)) (by kernel_rfl) (by kernel_rfl) rfl ?_ | refine s_asg (by (with_reducible assumption)) rfl (by kernel_rfl) ?_ | refine s_ret ?_ | refine s_expr rfl ?_) | (show Bin _ _ _ _ _ _ _ _; first | refine bin_add ?_ | refine bin_sub ?_ | refine bin_mul ?_ ?_ | refine bin_mod ?_ ?_ | refine bin_div ?_ ?_ | refine bin_pow18 ?_ | refine bin_pow14 ?_) | (show Cmp _ _ _ _ _ _ _ _; first | refine cmp_lt ?_ | refine cmp_gt ?_ | refine cmp_eq ?_ | refine cmp_is_nn ?_ | refine cmp_is_vn rfl ?_) | (show Tru _ _ _ _ _ _; refine tru_bool ?_) | (show B _ _ _ _ _ _; first | refine b_cmp rfl ?_ | refine b_boolop ?_ | refine b_plain rfl ?_) | (show BL _ _ _ _ _ _ _; first | refine bl_or ?_ | refine bl_or_nil ?_) | (show EL _ _ _ _ _ _ _; first | refine el_one ?_ | refine el_and ?_) | (show Sub _ _ _ _ _ _ _; first | refine sb_tup ⟨by decide⟩ (by rfl) ?_ | refine sb_int (by walk_at "hp") ?_ ?_ | refine sb_scr (by (with_reducible assumption)) ?_ (by with_reducible assumption) ?_) | (show CB _ _ _ _ _ _ _; first | refine isi_rl (by walk_at "hp") ?_ | refine cb_len_scr (by (with_reducible assumption)) ?_ | refine cb_len_int (by walk_at "hp") ?_ ?_ | refine cb_append (by walk_at "hp") ?_ ?_) | (show CT _ _ _ _ _ _ _; refine ct_list_ref (by walk_at "hp") ?_ ?_) | (show If _ _ _; first | refine if_t ?_ | refine if_f ?_) | (show Rng _ _; first | refine rng1 ?_ ?_ | refine rng2 ?_ ?_))
        · exact ⟨by rw [sizeLine_eq]; decide⟩
        refine ⟨?_, by walk_at "nm", ?_, by walk_at "nm", by walk_at "nm"⟩
        · rw [le, set_new]; rfl
        · rw [le, List.nil_append, List.getLast?_singleton]
          show _ = some (V.tup [.int (g xs (a + 1 + ((0 : Nat) : Int)) - g xs a), .int (a + 1 + ((0 : Nat) : Int) - a)])
          walk_at "nm"
      · rw [e] at g2 le
        dsimp only at le
        have g2' : l "top" = some (V.tup [.int (g xs q - g xs a), .int (q - a)]) := g2
        have st : Side ((a + 1 + (k : Int) - a).natAbs < 2 ^ 64 ∧ (q - a).natAbs < 2 ^ 64) := ⟨by omega⟩
        repeat' (first | (first | (show E _ _ _ _ _ _; first | refine e_name (by walk_at "nm") ?_ | refine e_int ?_ | refine e_bin ?_ | refine e_sub rfl ?_ | refine e_cmp rfl ?_ | refine e_callF (by (with_reducible assumption)) (by walk_at "gl") (by kernel_rfl) (by kernel_rfl) rfl ?_ | refine e_callB (by (with_reducible assumption)) (by walk_at "gl") (by kernel_rfl) rfl ?_ | refine e_callT (by (with_reducible assumption)) (by walk_at "gl") (by kernel_rfl) rfl ?_ | refine e_glob (by (with_reducible assumption)) (by kernel_rfl) (by walk_at "gl") ?_ | refine e_tuple ?_ | refine e_boolop ?_ | refine e_list ?_ | refine e_none ?_ | refine e_append rfl rfl rfl ?_ | refine e_comp (by (with_reducible assumption)) (by kernel_rfl) rfl ?_) | (show Sz _ _; refine sz rfl ?_) | (show Lst _ _ _; refine lst_ref (by walk_at "hp") ?_) | (show Es _ _ _ _ _ _; first | refine es_cons rfl ?_ | refine es_nil ?_) | (show Ss _ _ _ _ _ _; first | refine ss_asg ?_ | refine ss_expr ?_ | refine ss_ret ?_ | refine ss_nil ?_) | (show S _ _ _ _ _ _; first | refine s_comp (by (with_reducible assumption)) (by kernel_rfl) (by kernel_rfl) rfl ?_ | refine s_asg (by (with_reducible assumption)) rfl (by kernel_rfl) ?_ | refine s_ret ?_ | refine s_expr rfl ?_) | (show Bin _ _ _ _ _ _ _ _; first | refine bin_add ?_ | refine bin_sub ?_ | refine bin_mul ?_ ?_ | refine bin_mod ?_ ?_ | refine bin_div ?_ ?_ | refine bin_pow18 ?_ | refine bin_pow14 ?_) | (show Cmp _ _ _ _ _ _ _ _; first | refine cmp_lt ?_ | refine cmp_gt ?_ | refine cmp_eq ?_ | refine cmp_is_nn ?_ | refine cmp_is_vn rfl ?_) | (show Tru _ _ _ _ _ _; refine tru_bool ?_) | (show B _ _ _ _ _ _; first | refine b_cmp rfl ?_ | refine b_boolop ?_ | refine b_plain rfl ?_) | (show BL _ _ _ _ _ _ _; first | refine bl_or ?_ | refine bl_or_nil ?_) | (show EL _ _ _ _ _ _ _; first | refine el_one ?_ | refine el_and ?_) | (show Sub _ _ _ _ _ _ _; first | refine sb_tup ⟨by decide⟩ (by rfl) ?_ | refine sb_int (by walk_at "hp") ?_ ?_ | refine sb_scr (by (with_reducible assumption)) ?_ (by with_reducible assumption) ?_) | (show CB _ _ _ _ _ _ _; first | refine isi_rl (by walk_at "hp") ?_ | refine cb_len_scr (by (with_reducible assumption)) ?_ | refine cb_len_int (by walk_at "hp") ?_ ?_ | refine cb_append (by walk_at "hp") ?_ ?_) | (show CT _ _ _ _ _ _ _; refine ct_list_ref (by walk_at "hp") ?_ ?_) | (show If _ _ _; first | refine if_t ?_ | refine if_f ?_) | (show Rng _ _; first | refine rng1 ?_ ?_ | refine rng2 ?_ ?_)) | refine steeper_ok st ?_)
        refine if_decide (fun z => ?_) (fun z => ?_)
        · rw [if_pos z] at le
          repeat' (first | (show E _ _ _ _ _ _; first | refine e_name (by walk_at "nm") ?_ | refine e_int ?_ | refine e_bin ?_ | refine e_sub rfl ?_ | refine e_cmp rfl ?_ | refine e_callF (by (with_reducible assumption)) (by walk_at "gl") (by kernel_rfl) (by kernel_rfl) rfl ?_ | refine e_callB (by (with_reducible assumption)) (by walk_at "gl") (by kernel_rfl) rfl ?_ | refine e_callT (by (with_reducible assumption)) (by walk_at "gl") (by kernel_rfl) rfl ?_ | refine e_glob (by (with_reducible assumption)) (by kernel_rfl) (by walk_at "gl") ?_ | refine e_tuple ?_ | refine e_boolop ?_ | refine e_list ?_ | refine e_none ?_ | refine e_append rfl rfl rfl ?_ | refine e_comp (by (with_reducible assumption)) (by kernel_rfl) rfl ?_) | (show Sz _ _; refine sz rfl ?_) | (show Lst _ _ _; refine lst_ref (by walk_at "hp") ?_) | (show Es _ _ _ _ _ _; first | refine es_cons rfl ?_ | refine es_nil ?_) | (show Ss _ _ _ _ _ _; first | refine ss_asg ?_ | refine ss_expr ?_ | refine ss_ret ?_ | refine ss_nil ?_) | (show S _ _ _ _ _ _; first | refine s_comp (by (with_reducible assumption)) (by kernel_rfl) (by kernel_rfl) rfl ?_ | refine s_asg (by (with_reducible assumption)) rfl (by kernel_rfl) ?_ | refine s_ret ?_ | refine s_expr rfl ?_) | (show Bin _ _ _ _ _ _ _ _; first | refine bin_add ?_ | refine bin_sub ?_ | refine bin_mul ?_ ?_ | refine bin_mod ?_ ?_ | refine bin_div ?_ ?_ | refine bin_pow18 ?_ | refine bin_pow14 ?_) | (show Cmp _ _ _ _ _ _ _ _; first | refine cmp_lt ?_ | refine cmp_gt ?_ | refine cmp_eq ?_ | refine cmp_is_nn ?_ | refine cmp_is_vn rfl ?_) | (show Tru _ _ _ _ _ _; refine tru_bool ?_) | (show B _ _ _ _ _ _; first | refine b_cmp rfl ?_ | refine b_boolop ?_ | refine b_plain rfl ?_) | (show BL _ _ _ _ _ _ _; first | refine bl_or ?_ | refine bl_or_nil ?_) | (show EL _ _ _ _ _ _ _; first | refine el_one ?_ | refine el_and ?_) | (show Sub _ _ _ _ _ _ _; first | refine sb_tup ⟨by decide⟩ (by rfl) ?_ | refine sb_int (by walk_at "hp") ?_ ?_ | refine sb_scr (by (with_reducible assumption)) ?_ (by with_reducible assumption) ?_) | (show CB _ _ _ _ _ _ _; first | refine isi_rl (by walk_at "hp") ?_ | refine cb_len_scr (by (with_reducible assumption)) ?_ | refine cb_len_int (by walk_at "hp") ?_ ?_ | refine cb_append (by walk_at "hp") ?_ ?_) | (show CT _ _ _ _ _ _ _; refine ct_list_ref (by walk_at "hp") ?_ ?_) | (show If _ _ _; first | refine if_t ?_ | refine if_f ?_) | (show Rng _ _; first | refine rng1 ?_ ?_ | refine rng2 ?_ ?_))
          · exact sa
          refine ⟨?_, by walk_at "nm", ?_, by walk_at "nm", by walk_at "nm"⟩
          · rw [le, set_new, map_app]
          · rw [le, List.getLast?_concat]
            show _ = some (V.tup _)
            walk_at "nm"
        · rw [if_neg z] at le
          repeat' (first | (show E _ _ _ _ _ _; first | refine e_name (by walk_at "nm") ?_ | refine e_int ?_ | refine e_bin ?_ | refine e_sub rfl ?_ | refine e_cmp rfl ?_ | refine e_callF (by (with_reducible assumption)) (by walk_at "gl") (by kernel_rfl) (by kernel_rfl) rfl ?_ | refine e_callB (by (with_reducible assumption)) (by walk_at "gl") (by kernel_rfl) rfl ?_ | refine e_callT (by (with_reducible assumption)) (by walk_at "gl") (by kernel_rfl) rfl ?_ | refine e_glob (by (with_reducible assumption)) (by kernel_rfl) (by walk_at "gl") ?_ | refine e_tuple ?_ | refine e_boolop ?_ | refine e_list ?_ | refine e_none ?_ | refine e_append rfl rfl rfl ?_ | refine e_comp (by (with_reducible assumption)) (by kernel_rfl) rfl ?_) | (show Sz _ _; refine sz rfl ?_) | (show Lst _ _ _; refine lst_ref (by walk_at "hp") ?_) | (show Es _ _ _ _ _ _; first | refine es_cons rfl ?_ | refine es_nil ?_) | (show Ss _ _ _ _ _ _; first | refine ss_asg ?_ | refine ss_expr ?_ | refine ss_ret ?_ | refine ss_nil ?_) | (show S _ _ _ _ _ _; first | refine s_comp (by (with_reducible assumption)) (by kernel_rfl) (by kernel_rfl) rfl ?_ | refine s_asg (by (with_reducible assumption)) rfl (by kernel_rfl) ?_ | refine s_ret ?_ | refine s_expr rfl ?_) | (show Bin _ _ _ _ _ _ _ _; first | refine bin_add ?_ | refine bin_sub ?_ | refine bin_mul ?_ ?_ | refine bin_mod ?_ ?_ | refine bin_div ?_ ?_ | refine bin_pow18 ?_ | refine bin_pow14 ?_) | (show Cmp _ _ _ _ _ _ _ _; first | refine cmp_lt ?_ | refine cmp_gt ?_ | refine cmp_eq ?_ | refine cmp_is_nn ?_ | refine cmp_is_vn rfl ?_) | (show Tru _ _ _ _ _ _; refine tru_bool ?_) | (show B _ _ _ _ _ _; first | refine b_cmp rfl ?_ | refine b_boolop ?_ | refine b_plain rfl ?_) | (show BL _ _ _ _ _ _ _; first | refine bl_or ?_ | refine bl_or_nil ?_) | (show EL _ _ _ _ _ _ _; first | refine el_one ?_ | refine el_and ?_) | (show Sub _ _ _ _ _ _ _; first | refine sb_tup ⟨by decide⟩ (by rfl) ?_ | refine sb_int (by walk_at "hp") ?_ ?_ | refine sb_scr (by (with_reducible assumption)) ?_ (by with_reducible assumption) ?_) | (show CB _ _ _ _ _ _ _; first | refine isi_rl (by walk_at "hp") ?_ | refine cb_len_scr (by (with_reducible assumption)) ?_ | refine cb_len_int (by walk_at "hp") ?_ ?_ | refine cb_append (by walk_at "hp") ?_ ?_) | (show CT _ _ _ _ _ _ _; refine ct_list_ref (by walk_at "hp") ?_ ?_) | (show If _ _ _; first | refine if_t ?_ | refine if_f ?_) | (show Rng _ _; first | refine rng1 ?_ ?_ | refine rng2 ?_ ?_))
          refine ⟨by rw [le], by walk_at "nm", ?_, by walk_at "nm", by walk_at "nm"⟩
          rw [le, e]
          show _ = some (V.tup _)
          walk_at "nm"
    · rintro l hp' ⟨rfl, g1, g2, g3, g4⟩
      rw [rngItems_length]
      refine ⟨rfl, ?_, g1⟩
      congr 6
      omega
  rintro l hp' ⟨rfl, g1⟩
  repeat' (first | (show E _ _ _ _ _ _; first | refine e_name (by walk_at "nm") ?_ | refine e_int ?_ | refine e_bin ?_ | refine e_sub rfl ?_ | refine e_cmp rfl ?_ | refine e_callF (by (with_reducible assumption)) (by walk_at "gl") (by kernel_rfl) (by kernel_rfl) rfl ?_ | refine e_callB (by (with_reducible assumption)) (by walk_at "gl") (by kernel_rfl) rfl ?_ | refine e_callT (by (with_reducible assumption)) (by walk_at "gl") (by kernel_rfl) rfl ?_ | refine e_glob (by (with_reducible assumption)) (by kernel_rfl) (by walk_at "gl") ?_ | refine e_tuple ?_ | refine e_boolop ?_ | refine e_list ?_ | refine e_none ?_ | refine e_append rfl rfl rfl ?_ | refine e_comp (by (with_reducible assumption)) (by kernel_rfl) rfl ?_) | (show Sz _ _; refine sz rfl ?_) | (show Lst _ _ _; refine lst_ref (by walk_at "hp") ?_) | (show Es _ _ _ _ _ _; first | refine es_cons rfl ?_ | refine es_nil ?_) | (show Ss _ _ _ _ _ _; first | refine ss_asg ?_ | refine ss_expr ?_ | refine ss_ret ?_ | refine ss_nil ?_) | (show S _ _ _ _ _ _; first | refine s_comp (by (with_reducible assumption)) (by kernel_rfl) (by kernel_rfl) rfl ?_ | refine s_asg (by (with_reducible assumption)) rfl (by kernel_rfl) ?_ | refine s_ret ?_ | refine s_expr rfl ?_) | (show Bin _ _ _ _ _ _ _ _; first | refine bin_add ?_ | refine bin_sub ?_ | refine bin_mul ?_ ?_ | refine bin_mod ?_ ?_ | refine bin_div ?_ ?_ | refine bin_pow18 ?_ | refine bin_pow14 ?_) | (show Cmp _ _ _ _ _ _ _ _; first | refine cmp_lt ?_ | refine cmp_gt ?_ | refine cmp_eq ?_ | refine cmp_is_nn ?_ | refine cmp_is_vn rfl ?_) | (show Tru _ _ _ _ _ _; refine tru_bool ?_) | (show B _ _ _ _ _ _; first | refine b_cmp rfl ?_ | refine b_boolop ?_ | refine b_plain rfl ?_) | (show BL _ _ _ _ _ _ _; first | refine bl_or ?_ | refine bl_or_nil ?_) | (show EL _ _ _ _ _ _ _; first | refine el_one ?_ | refine el_and ?_) | (show Sub _ _ _ _ _ _ _; first | refine sb_tup ⟨by decide⟩ (by rfl) ?_ | refine sb_int (by walk_at "hp") ?_ ?_ | refine sb_scr (by (with_reducible assumption)) ?_ (by with_reducible assumption) ?_) | (show CB _ _ _ _ _ _ _; first | refine isi_rl (by walk_at "hp") ?_ | refine cb_len_scr (by (with_reducible assumption)) ?_ | refine cb_len_int (by walk_at "hp") ?_ ?_ | refine cb_append (by walk_at "hp") ?_ ?_) | (show CT _ _ _ _ _ _ _; refine ct_list_ref (by walk_at "hp") ?_ ?_) | (show If _ _ _; first | refine if_t ?_ | refine if_f ?_) | (show Rng _ _; first | refine rng1 ?_ ?_ | refine rng2 ?_ ?_))
  exact h

theorem sights_ok {X : Value → List O → Prop} {Q : V → List O → Prop} {hp : List O} {i : Nat} {xs : List Int} (hx : hp[i]? = some (.list (xs.map .int))) (s : Side (xs.length ≤ 256))
    (h : ∀ hp', Keep hp hp' → hp'[hp.length]? = some (.list ((sg (g xs) xs.length).map pV)) → Q (.ref hp.length) hp') : CallOK (pgo prog w p loose mean mg mb) (lev + 3) true ns 42 [.ref i] hp X Q := by
  refine fn_run (xs := ["land"]) (fnAt_of rfl (by kernel_rfl) (fn1 fun _ => rfl) (by decide) (by decide) rfl rfl rfl) rfl (by decide +kernel) fun c hc => ?_
  have s' := s.h
  have sx : Side (xs.length < 2 ^ 62) := ⟨by omega⟩
  repeat' (first | (show E _ _ _ _ _ _; first | refine e_name (by walk_at "nm") ?_ | refine e_int ?_ | refine e_bin ?_ | refine e_sub rfl ?_ | refine e_cmp rfl ?_ | refine e_callF (by (with_reducible assumption)) (by walk_at "gl") (by kernel_rfl) (by kernel_rfl) rfl ?_ | refine e_callB (by (with_reducible assumption)) (by walk_at "gl") (by kernel_rfl) rfl ?_ | refine e_callT (by (with_reducible assumption)) (by walk_at "gl") (by kernel_rfl) rfl ?_ | refine e_glob (by (with_reducible assumption)) (by kernel_rfl) (by walk_at "gl") ?_ | refine e_tuple ?_ | refine e_boolop ?_ | refine e_list ?_ | refine e_none ?_ | refine e_append rfl rfl rfl ?_ | refine e_comp (by (with_reducible assumption)) (by kernel_rfl) rfl ?_) | (show Sz _ _; refine sz rfl ?_) | (show Lst _ _ _; refine lst_ref (by walk_at "hp") ?_) | (show Es _ _ _ _ _ _; first | refine es_cons rfl ?_ | refine es_nil ?_) | (show Ss _ _ _ _ _ _; first | refine ss_asg ?_ | refine ss_expr ?_ | refine ss_ret ?_ | refine ss_nil ?_) | (show S _ _ _ _ _ _; first | refine s_comp (by (with_reducible assumption)) (by kernel_rfl) (by kernel_rfl) rfl ?_ | refine s_asg (by (with_reducible assumption)) rfl (by kernel_rfl) ?_ | refine s_ret ?_ | refine s_expr rfl ?_) | (show Bin _ _ _ _ _ _ _ _; first | refine bin_add ?_ | refine bin_sub ?_ | refine bin_mul ?_ ?_ | refine bin_mod ?_ ?_ | refine bin_div ?_ ?_ | refine bin_pow18 ?_ | refine bin_pow14 ?_) | (show Cmp _ _ _ _ _ _ _ _; first | refine cmp_lt ?_ | refine cmp_gt ?_ | refine cmp_eq ?_ | refine cmp_is_nn ?_ | refine cmp_is_vn rfl ?_) | (show Tru _ _ _ _ _ _; refine tru_bool ?_) | (show B _ _ _ _ _ _; first | refine b_cmp rfl ?_ | refine b_boolop ?_ | refine b_plain rfl ?_) | (show BL _ _ _ _ _ _ _; first | refine bl_or ?_ | refine bl_or_nil ?_) | (show EL _ _ _ _ _ _ _; first | refine el_one ?_ | refine el_and ?_) | (show Sub _ _ _ _ _ _ _; first | refine sb_tup ⟨by decide⟩ (by rfl) ?_ | refine sb_int (by walk_at "hp") ?_ ?_ | refine sb_scr (by (with_reducible assumption)) ?_ (by with_reducible assumption) ?_) | (show CB _ _ _ _ _ _ _; first | refine isi_rl (by walk_at "hp") ?_ | refine cb_len_scr (by (with_reducible assumption)) ?_ | refine cb_len_int (by walk_at "hp") ?_ ?_ | refine cb_append (by walk_at "hp") ?_ ?_) | (show CT _ _ _ _ _ _ _; refine ct_list_ref (by walk_at "hp") ?_ ?_) | (show If _ _ _; first | refine if_t ?_ | refine if_f ?_) | (show Rng _ _; first | refine rng1 ?_ ?_ | refine rng2 ?_ ?_))
  have hk0 : Keep hp (hp ++ [O.list []]) := Keep.refl.app
  have hf0 : (hp ++ [O.list []])[hp.length]? = some (.list ((sgN (g xs) xs.length 0).map pV)) := app_new
  have hiF : i < hp.length := get_lt hx
  generalize hp ++ [O.list []] = hp₁ at hk0 hf0 ⊢
  generalize hFe : hp.length = F at h hf0 hiF ⊢
  have hFl : hp.length ≤ F := by omega
  refine ss_cut (fun l hp' => Keep hp hp' ∧ hp'[F]? = some (.list ((sg (g xs) xs.length).map pV)) ∧ l "found" = some (.ref F)) ?_ ?_
  · refine s_for1 (by (with_reducible assumption)) (by kernel_rfl) rfl ?_
    refine i_range (by (with_reducible assumption)) gl_range (by kernel_rfl) rfl ?_
    have hx1 := hk0 _ _ hx
    repeat' (first | (show E _ _ _ _ _ _; first | refine e_name (by walk_at "nm") ?_ | refine e_int ?_ | refine e_bin ?_ | refine e_sub rfl ?_ | refine e_cmp rfl ?_ | refine e_callF (by (with_reducible assumption)) (by walk_at "gl") (by kernel_rfl) (by kernel_rfl) rfl ?_ | refine e_callB (by (with_reducible assumption)) (by walk_at "gl") (by kernel_rfl) rfl ?_ | refine e_callT (by (with_reducible assumption)) (by walk_at "gl") (by kernel_rfl) rfl ?_ | refine e_glob (by (with_reducible assumption)) (by kernel_rfl) (by walk_at "gl") ?_ | refine e_tuple ?_ | refine e_boolop ?_ | refine e_list ?_ | refine e_none ?_ | refine e_append rfl rfl rfl ?_ | refine e_comp (by (with_reducible assumption)) (by kernel_rfl) rfl ?_) | (show Sz _ _; refine sz rfl ?_) | (show Lst _ _ _; refine lst_ref (by walk_at "hp") ?_) | (show Es _ _ _ _ _ _; first | refine es_cons rfl ?_ | refine es_nil ?_) | (show Ss _ _ _ _ _ _; first | refine ss_asg ?_ | refine ss_expr ?_ | refine ss_ret ?_ | refine ss_nil ?_) | (show S _ _ _ _ _ _; first | refine s_comp (by (with_reducible assumption)) (by kernel_rfl) (by kernel_rfl) rfl ?_ | refine s_asg (by (with_reducible assumption)) rfl (by kernel_rfl) ?_ | refine s_ret ?_ | refine s_expr rfl ?_) | (show Bin _ _ _ _ _ _ _ _; first | refine bin_add ?_ | refine bin_sub ?_ | refine bin_mul ?_ ?_ | refine bin_mod ?_ ?_ | refine bin_div ?_ ?_ | refine bin_pow18 ?_ | refine bin_pow14 ?_) | (show Cmp _ _ _ _ _ _ _ _; first | refine cmp_lt ?_ | refine cmp_gt ?_ | refine cmp_eq ?_ | refine cmp_is_nn ?_ | refine cmp_is_vn rfl ?_) | (show Tru _ _ _ _ _ _; refine tru_bool ?_) | (show B _ _ _ _ _ _; first | refine b_cmp rfl ?_ | refine b_boolop ?_ | refine b_plain rfl ?_) | (show BL _ _ _ _ _ _ _; first | refine bl_or ?_ | refine bl_or_nil ?_) | (show EL _ _ _ _ _ _ _; first | refine el_one ?_ | refine el_and ?_) | (show Sub _ _ _ _ _ _ _; first | refine sb_tup ⟨by decide⟩ (by rfl) ?_ | refine sb_int (by walk_at "hp") ?_ ?_ | refine sb_scr (by (with_reducible assumption)) ?_ (by with_reducible assumption) ?_) | (show CB _ _ _ _ _ _ _; first | refine isi_rl (by walk_at "hp") ?_ | refine cb_len_scr (by (with_reducible assumption)) ?_ | refine cb_len_int (by walk_at "hp") ?_ ?_ | refine cb_append (by walk_at "hp") ?_ ?_) | (show CT _ _ _ _ _ _ _; refine ct_list_ref (by walk_at "hp") ?_ ?_) | (show If _ _ _; first | refine if_t ?_ | refine if_f ?_) | (show Rng _ _; first | refine rng1 ?_ ?_ | refine rng2 ?_ ?_))
    · exact sx
    · exact ⟨by omega⟩
    refine ⟨fun k l hp' => Keep hp hp' ∧ hp'[F]? = some (.list ((sgN (g xs) xs.length k).map pV)) ∧ l "found" = some (.ref F) ∧ l "land" = some (.ref i), ⟨hk0, hf0, by walk_at "nm", by walk_at "nm"⟩, fun _ _ _ _ => trivial, ?_, ?_⟩
    rotate_left
    · rintro l hp' ⟨h1, h2, h3, h4⟩
      rw [rngItems_length, show ((xs.length : Int)).toNat = xs.length by omega] at h2
      exact ⟨rfl, h1, h2, h3⟩
    clear hx1 hk0 hf0 hp₁
    rintro k hk l hp₁ ⟨hK, hf, g1, g2⟩
    rw [rngItems_get, Int.zero_add]
    rw [rngItems_length] at hk
    have hkn : k < xs.length := by omega
    have hsl := sgN_len (g xs) xs.length k (by omega)
    have hll := lat_len (g xs) k (xs.length - 1 - k)
    have hxk : k * xs.length ≤ 256 * 256 := Nat.mul_le_mul (by omega) s'
    have esg : sgN (g xs) xs.length (k + 1) = sgN (g xs) xs.length k ++ (lat (g xs) k (xs.length - 1 - k)).map fun b => ((k : Int), b) := rfl
    refine ss_cons ?_
    refine s_for1 (by (with_reducible assumption)) (by kernel_rfl) rfl ?_
    refine i_val ?_
    repeat' (first | (show E _ _ _ _ _ _; first | refine e_name (by walk_at "nm") ?_ | refine e_int ?_ | refine e_bin ?_ | refine e_sub rfl ?_ | refine e_cmp rfl ?_ | refine e_callF (by (with_reducible assumption)) (by walk_at "gl") (by kernel_rfl) (by kernel_rfl) rfl ?_ | refine e_callB (by (with_reducible assumption)) (by walk_at "gl") (by kernel_rfl) rfl ?_ | refine e_callT (by (with_reducible assumption)) (by walk_at "gl") (by kernel_rfl) rfl ?_ | refine e_glob (by (with_reducible assumption)) (by kernel_rfl) (by walk_at "gl") ?_ | refine e_tuple ?_ | refine e_boolop ?_ | refine e_list ?_ | refine e_none ?_ | refine e_append rfl rfl rfl ?_ | refine e_comp (by (with_reducible assumption)) (by kernel_rfl) rfl ?_) | (show Sz _ _; refine sz rfl ?_) | (show Lst _ _ _; refine lst_ref (by walk_at "hp") ?_) | (show Es _ _ _ _ _ _; first | refine es_cons rfl ?_ | refine es_nil ?_) | (show Ss _ _ _ _ _ _; first | refine ss_asg ?_ | refine ss_expr ?_ | refine ss_ret ?_ | refine ss_nil ?_) | (show S _ _ _ _ _ _; first | refine s_comp (by (with_reducible assumption)) (by kernel_rfl) (by kernel_rfl) rfl ?_ | refine s_asg (by (with_reducible assumption)) rfl (by kernel_rfl) ?_ | refine s_ret ?_ | refine s_expr rfl ?_) | (show Bin _ _ _ _ _ _ _ _; first | refine bin_add ?_ | refine bin_sub ?_ | refine bin_mul ?_ ?_ | refine bin_mod ?_ ?_ | refine bin_div ?_ ?_ | refine bin_pow18 ?_ | refine bin_pow14 ?_) | (show Cmp _ _ _ _ _ _ _ _; first | refine cmp_lt ?_ | refine cmp_gt ?_ | refine cmp_eq ?_ | refine cmp_is_nn ?_ | refine cmp_is_vn rfl ?_) | (show Tru _ _ _ _ _ _; refine tru_bool ?_) | (show B _ _ _ _ _ _; first | refine b_cmp rfl ?_ | refine b_boolop ?_ | refine b_plain rfl ?_) | (show BL _ _ _ _ _ _ _; first | refine bl_or ?_ | refine bl_or_nil ?_) | (show EL _ _ _ _ _ _ _; first | refine el_one ?_ | refine el_and ?_) | (show Sub _ _ _ _ _ _ _; first | refine sb_tup ⟨by decide⟩ (by rfl) ?_ | refine sb_int (by walk_at "hp") ?_ ?_ | refine sb_scr (by (with_reducible assumption)) ?_ (by with_reducible assumption) ?_) | (show CB _ _ _ _ _ _ _; first | refine isi_rl (by walk_at "hp") ?_ | refine cb_len_scr (by (with_reducible assumption)) ?_ | refine cb_len_int (by walk_at "hp") ?_ ?_ | refine cb_append (by walk_at "hp") ?_ ?_) | (show CT _ _ _ _ _ _ _; refine ct_list_ref (by walk_at "hp") ?_ ?_) | (show If _ _ _; first | refine if_t ?_ | refine if_f ?_) | (show Rng _ _; first | refine rng1 ?_ ?_ | refine rng2 ?_ ?_))
    refine seen_later_ok (hK _ _ hx) ⟨by omega⟩ ?_
    rw [show ((xs.length : Int) - 1 - (k : Int)).toNat = xs.length - 1 - k by omega]
    have hd' := app_new (hp := hp₁) (o := O.list ((lat (g xs) k (xs.length - 1 - k)).map .int))
    have hf' := app_get (t := [O.list ((lat (g xs) k (xs.length - 1 - k)).map .int)]) hf
    have hK' : Keep hp (hp₁ ++ [O.list ((lat (g xs) k (xs.length - 1 - k)).map .int)]) := hK.app
    have hFD : F < hp₁.length := get_lt hf
    generalize hp₁ ++ [O.list ((lat (g xs) k (xs.length - 1 - k)).map .int)] = hp₂ at hd' hf' hK' ⊢
    generalize hp₁.length = D at hd' hFD ⊢
    clear hK hf hp₁
    generalize lat (g xs) k (xs.length - 1 - k) = la at hll esg hd' ⊢
    refine srv_ref (by (with_reducible assumption)) hd' ?_
    refine ⟨fun m l hp' => Keep hp hp' ∧ hp'[D]? = some (.list (la.map .int)) ∧ hp'[F]? = some (.list ((sgN (g xs) xs.length k ++ (la.take m).map fun b => ((k : Int), b)).map pV)) ∧ l "found" = some (.ref F) ∧ l "land" = some (.ref i) ∧ l "a" = some (.int k), ⟨hK', hd', by simpa using hf', by walk_at "nm", by walk_at "nm", by walk_at "nm"⟩, fun _ _ _ h => h.2.1, ?_, ?_⟩
    rotate_left
    · rintro l hp' ⟨h1, h2, h3, h4, h5, h6⟩
      rw [List.length_map, List.take_length, ← esg] at h3
      repeat' (first | (show E _ _ _ _ _ _; first | refine e_name (by walk_at "nm") ?_ | refine e_int ?_ | refine e_bin ?_ | refine e_sub rfl ?_ | refine e_cmp rfl ?_ | refine e_callF (by (with_reducible assumption)) (by walk_at "gl") (by kernel_rfl) (by kernel_rfl) rfl ?_ | refine e_callB (by (with_reducible assumption)) (by walk_at "gl") (by kernel_rfl) rfl ?_ | refine e_callT (by (with_reducible assumption)) (by walk_at "gl") (by kernel_rfl) rfl ?_ | refine e_glob (by (with_reducible assumption)) (by kernel_rfl) (by walk_at "gl") ?_ | refine e_tuple ?_ | refine e_boolop ?_ | refine e_list ?_ | refine e_none ?_ | refine e_append rfl rfl rfl ?_ | refine e_comp (by (with_reducible assumption)) (by kernel_rfl) rfl ?_) | (show Sz _ _; refine sz rfl ?_) | (show Lst _ _ _; refine lst_ref (by walk_at "hp") ?_) | (show Es _ _ _ _ _ _; first | refine es_cons rfl ?_ | refine es_nil ?_) | (show Ss _ _ _ _ _ _; first | refine ss_asg ?_ | refine ss_expr ?_ | refine ss_ret ?_ | refine ss_nil ?_) | (show S _ _ _ _ _ _; first | refine s_comp (by (with_reducible assumption)) (by kernel_rfl) (by kernel_rfl) rfl ?_ | refine s_asg (by (with_reducible assumption)) rfl (by kernel_rfl) ?_ | refine s_ret ?_ | refine s_expr rfl ?_) | (show Bin _ _ _ _ _ _ _ _; first | refine bin_add ?_ | refine bin_sub ?_ | refine bin_mul ?_ ?_ | refine bin_mod ?_ ?_ | refine bin_div ?_ ?_ | refine bin_pow18 ?_ | refine bin_pow14 ?_) | (show Cmp _ _ _ _ _ _ _ _; first | refine cmp_lt ?_ | refine cmp_gt ?_ | refine cmp_eq ?_ | refine cmp_is_nn ?_ | refine cmp_is_vn rfl ?_) | (show Tru _ _ _ _ _ _; refine tru_bool ?_) | (show B _ _ _ _ _ _; first | refine b_cmp rfl ?_ | refine b_boolop ?_ | refine b_plain rfl ?_) | (show BL _ _ _ _ _ _ _; first | refine bl_or ?_ | refine bl_or_nil ?_) | (show EL _ _ _ _ _ _ _; first | refine el_one ?_ | refine el_and ?_) | (show Sub _ _ _ _ _ _ _; first | refine sb_tup ⟨by decide⟩ (by rfl) ?_ | refine sb_int (by walk_at "hp") ?_ ?_ | refine sb_scr (by (with_reducible assumption)) ?_ (by with_reducible assumption) ?_) | (show CB _ _ _ _ _ _ _; first | refine isi_rl (by walk_at "hp") ?_ | refine cb_len_scr (by (with_reducible assumption)) ?_ | refine cb_len_int (by walk_at "hp") ?_ ?_ | refine cb_append (by walk_at "hp") ?_ ?_) | (show CT _ _ _ _ _ _ _; refine ct_list_ref (by walk_at "hp") ?_ ?_) | (show If _ _ _; first | refine if_t ?_ | refine if_f ?_) | (show Rng _ _; first | refine rng1 ?_ ?_ | refine rng2 ?_ ?_))
      exact ⟨h1, h3, by walk_at "nm", by walk_at "nm"⟩
    clear g1 g2 hd' hf' hK' hp₂ l
    rintro m hm l hp₁ ⟨hK, hd, hf, g1, g2, g3⟩
    rw [List.length_map] at hm
    rw [List.getElem_map]
    have tk := List.take_add_one (l := la) (i := m)
    rw [List.getElem?_eq_getElem hm] at tk
    have sa : Side (((sgN (g xs) xs.length k ++ (la.take m).map fun b => ((k : Int), b)).map pV).length ≤ sizeLine) := ⟨by rw [List.length_map, List.length_append, List.length_map, List.length_take, sizeLine_eq]; omega⟩
    generalize la[m] = b at tk ⊢
    repeat' (first | (show E _ _ _ _ _ _; first | refine e_name (by walk_at "nm") ?_ | refine e_int ?_ | refine e_bin ?_ | refine e_sub rfl ?_ | refine e_cmp rfl ?_ | refine e_callF (by (with_reducible assumption)) (by walk_at "gl") (by kernel_rfl) (by kernel_rfl) rfl ?_ | refine e_callB (by (with_reducible assumption)) (by walk_at "gl") (by kernel_rfl) rfl ?_ | refine e_callT (by (with_reducible assumption)) (by walk_at "gl") (by kernel_rfl) rfl ?_ | refine e_glob (by (with_reducible assumption)) (by kernel_rfl) (by walk_at "gl") ?_ | refine e_tuple ?_ | refine e_boolop ?_ | refine e_list ?_ | refine e_none ?_ | refine e_append rfl rfl rfl ?_ | refine e_comp (by (with_reducible assumption)) (by kernel_rfl) rfl ?_) | (show Sz _ _; refine sz rfl ?_) | (show Lst _ _ _; refine lst_ref (by walk_at "hp") ?_) | (show Es _ _ _ _ _ _; first | refine es_cons rfl ?_ | refine es_nil ?_) | (show Ss _ _ _ _ _ _; first | refine ss_asg ?_ | refine ss_expr ?_ | refine ss_ret ?_ | refine ss_nil ?_) | (show S _ _ _ _ _ _; first | refine s_comp (by (with_reducible assumption)) (by kernel_rfl) (by kernel_rfl) rfl ?_ | refine s_asg (by (with_reducible assumption)) rfl (by kernel_rfl) ?_ | refine s_ret ?_ | refine s_expr rfl ?_) | (show Bin _ _ _ _ _ _ _ _; first | refine bin_add ?_ | refine bin_sub ?_ | refine bin_mul ?_ ?_ | refine bin_mod ?_ ?_ | refine bin_div ?_ ?_ | refine bin_pow18 ?_ | refine bin_pow14 ?_) | (show Cmp _ _ _ _ _ _ _ _; first | refine cmp_lt ?_ | refine cmp_gt ?_ | refine cmp_eq ?_ | refine cmp_is_nn ?_ | refine cmp_is_vn rfl ?_) | (show Tru _ _ _ _ _ _; refine tru_bool ?_) | (show B _ _ _ _ _ _; first | refine b_cmp rfl ?_ | refine b_boolop ?_ | refine b_plain rfl ?_) | (show BL _ _ _ _ _ _ _; first | refine bl_or ?_ | refine bl_or_nil ?_) | (show EL _ _ _ _ _ _ _; first | refine el_one ?_ | refine el_and ?_) | (show Sub _ _ _ _ _ _ _; first | refine sb_tup ⟨by decide⟩ (by rfl) ?_ | refine sb_int (by walk_at "hp") ?_ ?_ | refine sb_scr (by (with_reducible assumption)) ?_ (by with_reducible assumption) ?_) | (show CB _ _ _ _ _ _ _; first | refine isi_rl (by walk_at "hp") ?_ | refine cb_len_scr (by (with_reducible assumption)) ?_ | refine cb_len_int (by walk_at "hp") ?_ ?_ | refine cb_append (by walk_at "hp") ?_ ?_) | (show CT _ _ _ _ _ _ _; refine ct_list_ref (by walk_at "hp") ?_ ?_) | (show If _ _ _; first | refine if_t ?_ | refine if_f ?_) | (show Rng _ _; first | refine rng1 ?_ ?_ | refine rng2 ?_ ?_))
    · exact sa
    refine ⟨hK.set hFl, set_get hd (by omega), ?_, by walk_at "nm", by walk_at "nm", by walk_at "nm"⟩
    rw [set_at hf, tk, show V.tup [V.int k, V.int b] = pV ((k : Int), b) from rfl, map_appP, Option.toList_some, List.append_assoc, ← List.map_singleton (f := fun b => ((k : Int), b)), ← List.map_append]
  rintro l hp' ⟨hK, hf, g1⟩
  repeat' (first | (show E _ _ _ _ _ _; first | refine e_name (by walk_at "nm") ?_ | refine e_int ?_ | refine e_bin ?_ | refine e_sub rfl ?_ | refine e_cmp rfl ?_ | refine e_callF (by (with_reducible assumption)) (by walk_at "gl") (by kernel_rfl) (by kernel_rfl) rfl ?_ | refine e_callB (by (with_reducible assumption)) (by walk_at "gl") (by kernel_rfl) rfl ?_ | refine e_callT (by (with_reducible assumption)) (by walk_at "gl") (by kernel_rfl) rfl ?_ | refine e_glob (by (with_reducible assumption)) (by kernel_rfl) (by walk_at "gl") ?_ | refine e_tuple ?_ | refine e_boolop ?_ | refine e_list ?_ | refine e_none ?_ | refine e_append rfl rfl rfl ?_ | refine e_comp (by (with_reducible assumption)) (by kernel_rfl) rfl ?_) | (show Sz _ _; refine sz rfl ?_) | (show Lst _ _ _; refine lst_ref (by walk_at "hp") ?_) | (show Es _ _ _ _ _ _; first | refine es_cons rfl ?_ | refine es_nil ?_) | (show Ss _ _ _ _ _ _; first | refine ss_asg ?_ | refine ss_expr ?_ | refine ss_ret ?_ | refine ss_nil ?_) | (show S _ _ _ _ _ _; first | refine s_comp (by (with_reducible assumption)) (by kernel_rfl) (by kernel_rfl) rfl ?_ | refine s_asg (by (with_reducible assumption)) rfl (by kernel_rfl) ?_ | refine s_ret ?_ | refine s_expr rfl ?_) | (show Bin _ _ _ _ _ _ _ _; first | refine bin_add ?_ | refine bin_sub ?_ | refine bin_mul ?_ ?_ | refine bin_mod ?_ ?_ | refine bin_div ?_ ?_ | refine bin_pow18 ?_ | refine bin_pow14 ?_) | (show Cmp _ _ _ _ _ _ _ _; first | refine cmp_lt ?_ | refine cmp_gt ?_ | refine cmp_eq ?_ | refine cmp_is_nn ?_ | refine cmp_is_vn rfl ?_) | (show Tru _ _ _ _ _ _; refine tru_bool ?_) | (show B _ _ _ _ _ _; first | refine b_cmp rfl ?_ | refine b_boolop ?_ | refine b_plain rfl ?_) | (show BL _ _ _ _ _ _ _; first | refine bl_or ?_ | refine bl_or_nil ?_) | (show EL _ _ _ _ _ _ _; first | refine el_one ?_ | refine el_and ?_) | (show Sub _ _ _ _ _ _ _; first | refine sb_tup ⟨by decide⟩ (by rfl) ?_ | refine sb_int (by walk_at "hp") ?_ ?_ | refine sb_scr (by (with_reducible assumption)) ?_ (by with_reducible assumption) ?_) | (show CB _ _ _ _ _ _ _; first | refine isi_rl (by walk_at "hp") ?_ | refine cb_len_scr (by (with_reducible assumption)) ?_ | refine cb_len_int (by walk_at "hp") ?_ ?_ | refine cb_append (by walk_at "hp") ?_ ?_) | (show CT _ _ _ _ _ _ _; refine ct_list_ref (by walk_at "hp") ?_ ?_) | (show If _ _ _; first | refine if_t ?_ | refine if_f ?_) | (show Rng _ _; first | refine rng1 ?_ ?_ | refine rng2 ?_ ?_))
  exact h hp' hK hf

def tri : Nat → Nat → Nat
  | _, 0 => 0
  | n, k + 1 => tri n k + (n - 1 - k)
theorem sgN_tri (f : Int → Int) (n : Nat) : ∀ k, (sgN f n k).length ≤ tri n k
  | 0 => Nat.le_refl _
  | k + 1 => by
    rw [sgN, List.length_append, List.length_map]
    have h1 := sgN_tri f n k
    have h2 := lat_len f k (n - 1 - k)
    show _ ≤ tri n k + (n - 1 - k)
    omega
theorem tri_14 : ∀ n, n ≤ 14 → tri n n ≤ 91 := by decide
theorem law_ok {s₁ : Shared} {fa a : Addr} {vals : List Value} {R : Result → Shared → Prop}
    (T : Top p loose mean mg mb s₁.heap) (KX : (Mine.hd05.heap_39 w.params).In s₁.heap) (hmg : mg "law" = some (.ref fa)) (hL : s₁.heap.IsList a vals.toArray) (hI : IntsAre vals ns) (hn : ns.length ≤ 63)
    (hR : ∀ s' m', Fr s₁.heap s₁.heap.objs.size s'.heap m' → s'.gens = s₁.gens → s'.os = s₁.os → R (.ok (.ret (.bool true))) s') : codeAny (model prog w) callerA (.call (.ref fa) ⟨[.ref a], []⟩) R s₁ := by
  refine law_go (pg := pgo prog w p loose mean mg mb) (f := 73) (x := "_law_script") T KX hmg hL hI hn (by kernel_rfl) (fnAt_of rfl (by kernel_rfl) (fn1 fun _ => rfl) (by decide) (by decide) rfl rfl rfl) (by decide +kernel) hR fun c hc => ?_
  have hn' : ns.length < 2 ^ 62 := by omega
  repeat' (first | (show E _ _ _ _ _ _; first | refine e_name (by walk_at "nm") ?_ | refine e_int ?_ | refine e_bin ?_ | refine e_sub rfl ?_ | refine e_cmp rfl ?_ | refine e_callF (by (with_reducible assumption)) (by walk_at "gl") (by kernel_rfl) (by kernel_rfl) rfl ?_ | refine e_callB (by (with_reducible assumption)) (by walk_at "gl") (by kernel_rfl) rfl ?_ | refine e_callT (by (with_reducible assumption)) (by walk_at "gl") (by kernel_rfl) rfl ?_ | refine e_glob (by (with_reducible assumption)) (by kernel_rfl) (by walk_at "gl") ?_ | refine e_tuple ?_ | refine e_boolop ?_ | refine e_list ?_ | refine e_none ?_ | refine e_append rfl rfl rfl ?_ | refine e_comp (by (with_reducible assumption)) (by kernel_rfl) rfl ?_) | (show Sz _ _; refine sz rfl ?_) | (show Lst _ _ _; refine lst_ref (by walk_at "hp") ?_) | (show Es _ _ _ _ _ _; first | refine es_cons rfl ?_ | refine es_nil ?_) | (show Ss _ _ _ _ _ _; first | refine ss_asg ?_ | refine ss_expr ?_ | refine ss_ret ?_ | refine ss_nil ?_) | (show S _ _ _ _ _ _; first | refine s_comp (by (with_reducible assumption)) (by kernel_rfl) (by kernel_rfl) rfl ?_ | refine s_asg (by (with_reducible assumption)) rfl (by kernel_rfl) ?_ | refine s_ret ?_ | refine s_expr rfl ?_) | (show Bin _ _ _ _ _ _ _ _; first | refine bin_add ?_ | refine bin_sub ?_ | refine bin_mul ?_ ?_ | refine bin_mod ?_ ?_ | refine bin_div ?_ ?_ | refine bin_pow18 ?_ | refine bin_pow14 ?_) | (show Cmp _ _ _ _ _ _ _ _; first | refine cmp_lt ?_ | refine cmp_gt ?_ | refine cmp_eq ?_ | refine cmp_is_nn ?_ | refine cmp_is_vn rfl ?_) | (show Tru _ _ _ _ _ _; refine tru_bool ?_) | (show B _ _ _ _ _ _; first | refine b_cmp rfl ?_ | refine b_boolop ?_ | refine b_plain rfl ?_) | (show BL _ _ _ _ _ _ _; first | refine bl_or ?_ | refine bl_or_nil ?_) | (show EL _ _ _ _ _ _ _; first | refine el_one ?_ | refine el_and ?_) | (show Sub _ _ _ _ _ _ _; first | refine sb_tup ⟨by decide⟩ (by rfl) ?_ | refine sb_int (by walk_at "hp") ?_ ?_ | refine sb_scr (by (with_reducible assumption)) ?_ (by with_reducible assumption) ?_) | (show CB _ _ _ _ _ _ _; first | refine isi_rl (by walk_at "hp") ?_ | refine cb_len_scr (by (with_reducible assumption)) ?_ | refine cb_len_int (by walk_at "hp") ?_ ?_ | refine cb_append (by walk_at "hp") ?_ ?_) | (show CT _ _ _ _ _ _ _; refine ct_list_ref (by walk_at "hp") ?_ ?_) | (show If _ _ _; first | refine if_t ?_ | refine if_f ?_) | (show Rng _ _; first | refine rng1 ?_ ?_ | refine rng2 ?_ ?_))
  refine i_val ?_
  repeat' (first | (show E _ _ _ _ _ _; first | refine e_name (by walk_at "nm") ?_ | refine e_int ?_ | refine e_bin ?_ | refine e_sub rfl ?_ | refine e_cmp rfl ?_ | refine e_callF (by (with_reducible assumption)) (by walk_at "gl") (by kernel_rfl) (by kernel_rfl) rfl ?_ | refine e_callB (by (with_reducible assumption)) (by walk_at "gl") (by kernel_rfl) rfl ?_ | refine e_callT (by (with_reducible assumption)) (by walk_at "gl") (by kernel_rfl) rfl ?_ | refine e_glob (by (with_reducible assumption)) (by kernel_rfl) (by walk_at "gl") ?_ | refine e_tuple ?_ | refine e_boolop ?_ | refine e_list ?_ | refine e_none ?_ | refine e_append rfl rfl rfl ?_ | refine e_comp (by (with_reducible assumption)) (by kernel_rfl) rfl ?_) | (show Sz _ _; refine sz rfl ?_) | (show Lst _ _ _; refine lst_ref (by walk_at "hp") ?_) | (show Es _ _ _ _ _ _; first | refine es_cons rfl ?_ | refine es_nil ?_) | (show Ss _ _ _ _ _ _; first | refine ss_asg ?_ | refine ss_expr ?_ | refine ss_ret ?_ | refine ss_nil ?_) | (show S _ _ _ _ _ _; first | refine s_comp (by (with_reducible assumption)) (by kernel_rfl) (by kernel_rfl) rfl ?_ | refine s_asg (by (with_reducible assumption)) rfl (by kernel_rfl) ?_ | refine s_ret ?_ | refine s_expr rfl ?_) | (show Bin _ _ _ _ _ _ _ _; first | refine bin_add ?_ | refine bin_sub ?_ | refine bin_mul ?_ ?_ | refine bin_mod ?_ ?_ | refine bin_div ?_ ?_ | refine bin_pow18 ?_ | refine bin_pow14 ?_) | (show Cmp _ _ _ _ _ _ _ _; first | refine cmp_lt ?_ | refine cmp_gt ?_ | refine cmp_eq ?_ | refine cmp_is_nn ?_ | refine cmp_is_vn rfl ?_) | (show Tru _ _ _ _ _ _; refine tru_bool ?_) | (show B _ _ _ _ _ _; first | refine b_cmp rfl ?_ | refine b_boolop ?_ | refine b_plain rfl ?_) | (show BL _ _ _ _ _ _ _; first | refine bl_or ?_ | refine bl_or_nil ?_) | (show EL _ _ _ _ _ _ _; first | refine el_one ?_ | refine el_and ?_) | (show Sub _ _ _ _ _ _ _; first | refine sb_tup ⟨by decide⟩ (by rfl) ?_ | refine sb_int (by walk_at "hp") ?_ ?_ | refine sb_scr (by (with_reducible assumption)) ?_ (by with_reducible assumption) ?_) | (show CB _ _ _ _ _ _ _; first | refine isi_rl (by walk_at "hp") ?_ | refine cb_len_scr (by (with_reducible assumption)) ?_ | refine cb_len_int (by walk_at "hp") ?_ ?_ | refine cb_append (by walk_at "hp") ?_ ?_) | (show CT _ _ _ _ _ _ _; refine ct_list_ref (by walk_at "hp") ?_ ?_) | (show If _ _ _; first | refine if_t ?_ | refine if_f ?_) | (show Rng _ _; first | refine rng1 ?_ ?_ | refine rng2 ?_ ?_))
  refine land_by_ok hn' (by (first | assumption | (refine Side.mk ?_; first | assumption | decide | omega | exact .inr (by decide) | exact .inl (by decide) | exact .inr (by omega) | exact .inl (by omega) | (simp only [List.length_map, List.length_append, List.length_cons, List.length_nil, sizeLine] <;> omega)))) (fun xs₀ x1 x2 => ?_)
  refine srv_ref (by (with_reducible assumption)) app_new ?_
  refine comp_ints (by (with_reducible assumption)) (by kernel_rfl) (fun _ _ => True) (by rw [List.length_map, sizeLine_eq]; omega) (fun vs => app_get app_new) ?_ ?_
  · intro k hk vs hv
    refine ⟨_, tgt1, fun c' hc' => ?_⟩
    rw [List.getElem_map]
    repeat' (first | (show E _ _ _ _ _ _; first | refine e_name (by walk_at "nm") ?_ | refine e_int ?_ | refine e_bin ?_ | refine e_sub rfl ?_ | refine e_cmp rfl ?_ | refine e_callF (by (with_reducible assumption)) (by walk_at "gl") (by kernel_rfl) (by kernel_rfl) rfl ?_ | refine e_callB (by (with_reducible assumption)) (by walk_at "gl") (by kernel_rfl) rfl ?_ | refine e_callT (by (with_reducible assumption)) (by walk_at "gl") (by kernel_rfl) rfl ?_ | refine e_glob (by (with_reducible assumption)) (by kernel_rfl) (by walk_at "gl") ?_ | refine e_tuple ?_ | refine e_boolop ?_ | refine e_list ?_ | refine e_none ?_ | refine e_append rfl rfl rfl ?_ | refine e_comp (by (with_reducible assumption)) (by kernel_rfl) rfl ?_) | (show Sz _ _; refine sz rfl ?_) | (show Lst _ _ _; refine lst_ref (by walk_at "hp") ?_) | (show Es _ _ _ _ _ _; first | refine es_cons rfl ?_ | refine es_nil ?_) | (show Ss _ _ _ _ _ _; first | refine ss_asg ?_ | refine ss_expr ?_ | refine ss_ret ?_ | refine ss_nil ?_) | (show S _ _ _ _ _ _; first | refine s_comp (by (with_reducible assumption)) (by kernel_rfl) (by kernel_rfl) rfl ?_ | refine s_asg (by (with_reducible assumption)) rfl (by kernel_rfl) ?_ | refine s_ret ?_ | refine s_expr rfl ?_) | (show Bin _ _ _ _ _ _ _ _; first | refine bin_add ?_ | refine bin_sub ?_ | refine bin_mul ?_ ?_ | refine bin_mod ?_ ?_ | refine bin_div ?_ ?_ | refine bin_pow18 ?_ | refine bin_pow14 ?_) | (show Cmp _ _ _ _ _ _ _ _; first | refine cmp_lt ?_ | refine cmp_gt ?_ | refine cmp_eq ?_ | refine cmp_is_nn ?_ | refine cmp_is_vn rfl ?_) | (show Tru _ _ _ _ _ _; refine tru_bool ?_) | (show B _ _ _ _ _ _; first | refine b_cmp rfl ?_ | refine b_boolop ?_ | refine b_plain rfl ?_) | (show BL _ _ _ _ _ _ _; first | refine bl_or ?_ | refine bl_or_nil ?_) | (show EL _ _ _ _ _ _ _; first | refine el_one ?_ | refine el_and ?_) | (show Sub _ _ _ _ _ _ _; first | refine sb_tup ⟨by decide⟩ (by rfl) ?_ | refine sb_int (by walk_at "hp") ?_ ?_ | refine sb_scr (by (with_reducible assumption)) ?_ (by with_reducible assumption) ?_) | (show CB _ _ _ _ _ _ _; first | refine isi_rl (by walk_at "hp") ?_ | refine cb_len_scr (by (with_reducible assumption)) ?_ | refine cb_len_int (by walk_at "hp") ?_ ?_ | refine cb_append (by walk_at "hp") ?_ ?_) | (show CT _ _ _ _ _ _ _; refine ct_list_ref (by walk_at "hp") ?_ ?_) | (show If _ _ _; first | refine if_t ?_ | refine if_f ?_) | (show Rng _ _; first | refine rng1 ?_ ?_ | refine rng2 ?_ ?_))
    all_goals try (first | assumption | (refine Side.mk ?_; first | assumption | decide | omega | exact .inr (by decide) | exact .inl (by decide) | exact .inr (by omega) | exact .inl (by omega) | (simp only [List.length_map, List.length_append, List.length_cons, List.length_nil, sizeLine] <;> omega)))
    exact ⟨rfl, _, rfl, trivial⟩
  intro ys hy _
  rw [List.length_map] at hy
  repeat' (first | (show E _ _ _ _ _ _; first | refine e_name (by walk_at "nm") ?_ | refine e_int ?_ | refine e_bin ?_ | refine e_sub rfl ?_ | refine e_cmp rfl ?_ | refine e_callF (by (with_reducible assumption)) (by walk_at "gl") (by kernel_rfl) (by kernel_rfl) rfl ?_ | refine e_callB (by (with_reducible assumption)) (by walk_at "gl") (by kernel_rfl) rfl ?_ | refine e_callT (by (with_reducible assumption)) (by walk_at "gl") (by kernel_rfl) rfl ?_ | refine e_glob (by (with_reducible assumption)) (by kernel_rfl) (by walk_at "gl") ?_ | refine e_tuple ?_ | refine e_boolop ?_ | refine e_list ?_ | refine e_none ?_ | refine e_append rfl rfl rfl ?_ | refine e_comp (by (with_reducible assumption)) (by kernel_rfl) rfl ?_) | (show Sz _ _; refine sz rfl ?_) | (show Lst _ _ _; refine lst_ref (by walk_at "hp") ?_) | (show Es _ _ _ _ _ _; first | refine es_cons rfl ?_ | refine es_nil ?_) | (show Ss _ _ _ _ _ _; first | refine ss_asg ?_ | refine ss_expr ?_ | refine ss_ret ?_ | refine ss_nil ?_) | (show S _ _ _ _ _ _; first | refine s_comp (by (with_reducible assumption)) (by kernel_rfl) (by kernel_rfl) rfl ?_ | refine s_asg (by (with_reducible assumption)) rfl (by kernel_rfl) ?_ | refine s_ret ?_ | refine s_expr rfl ?_) | (show Bin _ _ _ _ _ _ _ _; first | refine bin_add ?_ | refine bin_sub ?_ | refine bin_mul ?_ ?_ | refine bin_mod ?_ ?_ | refine bin_div ?_ ?_ | refine bin_pow18 ?_ | refine bin_pow14 ?_) | (show Cmp _ _ _ _ _ _ _ _; first | refine cmp_lt ?_ | refine cmp_gt ?_ | refine cmp_eq ?_ | refine cmp_is_nn ?_ | refine cmp_is_vn rfl ?_) | (show Tru _ _ _ _ _ _; refine tru_bool ?_) | (show B _ _ _ _ _ _; first | refine b_cmp rfl ?_ | refine b_boolop ?_ | refine b_plain rfl ?_) | (show BL _ _ _ _ _ _ _; first | refine bl_or ?_ | refine bl_or_nil ?_) | (show EL _ _ _ _ _ _ _; first | refine el_one ?_ | refine el_and ?_) | (show Sub _ _ _ _ _ _ _; first | refine sb_tup ⟨by decide⟩ (by rfl) ?_ | refine sb_int (by walk_at "hp") ?_ ?_ | refine sb_scr (by (with_reducible assumption)) ?_ (by with_reducible assumption) ?_) | (show CB _ _ _ _ _ _ _; first | refine isi_rl (by walk_at "hp") ?_ | refine cb_len_scr (by (with_reducible assumption)) ?_ | refine cb_len_int (by walk_at "hp") ?_ ?_ | refine cb_append (by walk_at "hp") ?_ ?_) | (show CT _ _ _ _ _ _ _; refine ct_list_ref (by walk_at "hp") ?_ ?_) | (show If _ _ _; first | refine if_t ?_ | refine if_f ?_) | (show Rng _ _; first | refine rng1 ?_ ?_ | refine rng2 ?_ ?_))
  refine ss_cut (fun l hp => ∃ (i : Nat) (xs : List Int), hp[i]? = some (.list (xs.map .int)) ∧ 1 ≤ xs.length ∧ xs.length ≤ 14 ∧ l "_law_land" = some (.ref i) ∧ l "_law_script" = some .scr) ?_ ?_
  · refine s_if ?_
    repeat' (first | (first | (show E _ _ _ _ _ _; first | refine e_name (by walk_at "nm") ?_ | refine e_int ?_ | refine e_bin ?_ | refine e_sub rfl ?_ | refine e_cmp rfl ?_ | refine e_callF (by (with_reducible assumption)) (by walk_at "gl") (by kernel_rfl) (by kernel_rfl) rfl ?_ | refine e_callB (by (with_reducible assumption)) (by walk_at "gl") (by kernel_rfl) rfl ?_ | refine e_callT (by (with_reducible assumption)) (by walk_at "gl") (by kernel_rfl) rfl ?_ | refine e_glob (by (with_reducible assumption)) (by kernel_rfl) (by walk_at "gl") ?_ | refine e_tuple ?_ | refine e_boolop ?_ | refine e_list ?_ | refine e_none ?_ | refine e_append rfl rfl rfl ?_ | refine e_comp (by (with_reducible assumption)) (by kernel_rfl) rfl ?_) | (show Sz _ _; refine sz rfl ?_) | (show Lst _ _ _; refine lst_ref (by walk_at "hp") ?_) | (show Es _ _ _ _ _ _; first | refine es_cons rfl ?_ | refine es_nil ?_) | (show Ss _ _ _ _ _ _; first | refine ss_asg ?_ | refine ss_expr ?_ | refine ss_ret ?_ | refine ss_nil ?_) | (show S _ _ _ _ _ _; first | refine s_comp (by (with_reducible assumption)) (by kernel_rfl) (by kernel_rfl) rfl ?_ | refine s_asg (by (with_reducible assumption)) rfl (by kernel_rfl) ?_ | refine s_ret ?_ | refine s_expr rfl ?_) | (show Bin _ _ _ _ _ _ _ _; first | refine bin_add ?_ | refine bin_sub ?_ | refine bin_mul ?_ ?_ | refine bin_mod ?_ ?_ | refine bin_div ?_ ?_ | refine bin_pow18 ?_ | refine bin_pow14 ?_) | (show Cmp _ _ _ _ _ _ _ _; first | refine cmp_lt ?_ | refine cmp_gt ?_ | refine cmp_eq ?_ | refine cmp_is_nn ?_ | refine cmp_is_vn rfl ?_) | (show Tru _ _ _ _ _ _; refine tru_bool ?_) | (show B _ _ _ _ _ _; first | refine b_cmp rfl ?_ | refine b_boolop ?_ | refine b_plain rfl ?_) | (show BL _ _ _ _ _ _ _; first | refine bl_or ?_ | refine bl_or_nil ?_) | (show EL _ _ _ _ _ _ _; first | refine el_one ?_ | refine el_and ?_) | (show Sub _ _ _ _ _ _ _; first | refine sb_tup ⟨by decide⟩ (by rfl) ?_ | refine sb_int (by walk_at "hp") ?_ ?_ | refine sb_scr (by (with_reducible assumption)) ?_ (by with_reducible assumption) ?_) | (show CB _ _ _ _ _ _ _; first | refine isi_rl (by walk_at "hp") ?_ | refine cb_len_scr (by (with_reducible assumption)) ?_ | refine cb_len_int (by walk_at "hp") ?_ ?_ | refine cb_append (by walk_at "hp") ?_ ?_) | (show CT _ _ _ _ _ _ _; refine ct_list_ref (by walk_at "hp") ?_ ?_) | (show If _ _ _; first | refine if_t ?_ | refine if_f ?_) | (show Rng _ _; first | refine rng1 ?_ ?_ | refine rng2 ?_ ?_)) | refine cell_at_ok hn' ?_ ?_)
    all_goals try (first | assumption | (refine Side.mk ?_; first | assumption | decide | omega | exact .inr (by decide) | exact .inl (by decide) | exact .inr (by omega) | exact .inl (by omega) | (simp only [List.length_map, List.length_append, List.length_cons, List.length_nil, sizeLine] <;> omega)))
    refine if_decide (fun q => ?_) (fun q => ?_)
    · repeat' (first | (show E _ _ _ _ _ _; first | refine e_name (by walk_at "nm") ?_ | refine e_int ?_ | refine e_bin ?_ | refine e_sub rfl ?_ | refine e_cmp rfl ?_ | refine e_callF (by (with_reducible assumption)) (by walk_at "gl") (by kernel_rfl) (by kernel_rfl) rfl ?_ | refine e_callB (by (with_reducible assumption)) (by walk_at "gl") (by kernel_rfl) rfl ?_ | refine e_callT (by (with_reducible assumption)) (by walk_at "gl") (by kernel_rfl) rfl ?_ | refine e_glob (by (with_reducible assumption)) (by kernel_rfl) (by walk_at "gl") ?_ | refine e_tuple ?_ | refine e_boolop ?_ | refine e_list ?_ | refine e_none ?_ | refine e_append rfl rfl rfl ?_ | refine e_comp (by (with_reducible assumption)) (by kernel_rfl) rfl ?_) | (show Sz _ _; refine sz rfl ?_) | (show Lst _ _ _; refine lst_ref (by walk_at "hp") ?_) | (show Es _ _ _ _ _ _; first | refine es_cons rfl ?_ | refine es_nil ?_) | (show Ss _ _ _ _ _ _; first | refine ss_asg ?_ | refine ss_expr ?_ | refine ss_ret ?_ | refine ss_nil ?_) | (show S _ _ _ _ _ _; first | refine s_comp (by (with_reducible assumption)) (by kernel_rfl) (by kernel_rfl) rfl ?_ | refine s_asg (by (with_reducible assumption)) rfl (by kernel_rfl) ?_ | refine s_ret ?_ | refine s_expr rfl ?_) | (show Bin _ _ _ _ _ _ _ _; first | refine bin_add ?_ | refine bin_sub ?_ | refine bin_mul ?_ ?_ | refine bin_mod ?_ ?_ | refine bin_div ?_ ?_ | refine bin_pow18 ?_ | refine bin_pow14 ?_) | (show Cmp _ _ _ _ _ _ _ _; first | refine cmp_lt ?_ | refine cmp_gt ?_ | refine cmp_eq ?_ | refine cmp_is_nn ?_ | refine cmp_is_vn rfl ?_) | (show Tru _ _ _ _ _ _; refine tru_bool ?_) | (show B _ _ _ _ _ _; first | refine b_cmp rfl ?_ | refine b_boolop ?_ | refine b_plain rfl ?_) | (show BL _ _ _ _ _ _ _; first | refine bl_or ?_ | refine bl_or_nil ?_) | (show EL _ _ _ _ _ _ _; first | refine el_one ?_ | refine el_and ?_) | (show Sub _ _ _ _ _ _ _; first | refine sb_tup ⟨by decide⟩ (by rfl) ?_ | refine sb_int (by walk_at "hp") ?_ ?_ | refine sb_scr (by (with_reducible assumption)) ?_ (by with_reducible assumption) ?_) | (show CB _ _ _ _ _ _ _; first | refine isi_rl (by walk_at "hp") ?_ | refine cb_len_scr (by (with_reducible assumption)) ?_ | refine cb_len_int (by walk_at "hp") ?_ ?_ | refine cb_append (by walk_at "hp") ?_ ?_) | (show CT _ _ _ _ _ _ _; refine ct_list_ref (by walk_at "hp") ?_ ?_) | (show If _ _ _; first | refine if_t ?_ | refine if_f ?_) | (show Rng _ _; first | refine rng1 ?_ ?_ | refine rng2 ?_ ?_))
      refine land_by_ok hn' (by (first | assumption | (refine Side.mk ?_; first | assumption | decide | omega | exact .inr (by decide) | exact .inl (by decide) | exact .inr (by omega) | exact .inl (by omega) | (simp only [List.length_map, List.length_append, List.length_cons, List.length_nil, sizeLine] <;> omega)))) (fun zs z1 z2 => ?_)
      repeat' (first | (show E _ _ _ _ _ _; first | refine e_name (by walk_at "nm") ?_ | refine e_int ?_ | refine e_bin ?_ | refine e_sub rfl ?_ | refine e_cmp rfl ?_ | refine e_callF (by (with_reducible assumption)) (by walk_at "gl") (by kernel_rfl) (by kernel_rfl) rfl ?_ | refine e_callB (by (with_reducible assumption)) (by walk_at "gl") (by kernel_rfl) rfl ?_ | refine e_callT (by (with_reducible assumption)) (by walk_at "gl") (by kernel_rfl) rfl ?_ | refine e_glob (by (with_reducible assumption)) (by kernel_rfl) (by walk_at "gl") ?_ | refine e_tuple ?_ | refine e_boolop ?_ | refine e_list ?_ | refine e_none ?_ | refine e_append rfl rfl rfl ?_ | refine e_comp (by (with_reducible assumption)) (by kernel_rfl) rfl ?_) | (show Sz _ _; refine sz rfl ?_) | (show Lst _ _ _; refine lst_ref (by walk_at "hp") ?_) | (show Es _ _ _ _ _ _; first | refine es_cons rfl ?_ | refine es_nil ?_) | (show Ss _ _ _ _ _ _; first | refine ss_asg ?_ | refine ss_expr ?_ | refine ss_ret ?_ | refine ss_nil ?_) | (show S _ _ _ _ _ _; first | refine s_comp (by (with_reducible assumption)) (by kernel_rfl) (by kernel_rfl) rfl ?_ | refine s_asg (by (with_reducible assumption)) rfl (by kernel_rfl) ?_ | refine s_ret ?_ | refine s_expr rfl ?_) | (show Bin _ _ _ _ _ _ _ _; first | refine bin_add ?_ | refine bin_sub ?_ | refine bin_mul ?_ ?_ | refine bin_mod ?_ ?_ | refine bin_div ?_ ?_ | refine bin_pow18 ?_ | refine bin_pow14 ?_) | (show Cmp _ _ _ _ _ _ _ _; first | refine cmp_lt ?_ | refine cmp_gt ?_ | refine cmp_eq ?_ | refine cmp_is_nn ?_ | refine cmp_is_vn rfl ?_) | (show Tru _ _ _ _ _ _; refine tru_bool ?_) | (show B _ _ _ _ _ _; first | refine b_cmp rfl ?_ | refine b_boolop ?_ | refine b_plain rfl ?_) | (show BL _ _ _ _ _ _ _; first | refine bl_or ?_ | refine bl_or_nil ?_) | (show EL _ _ _ _ _ _ _; first | refine el_one ?_ | refine el_and ?_) | (show Sub _ _ _ _ _ _ _; first | refine sb_tup ⟨by decide⟩ (by rfl) ?_ | refine sb_int (by walk_at "hp") ?_ ?_ | refine sb_scr (by (with_reducible assumption)) ?_ (by with_reducible assumption) ?_) | (show CB _ _ _ _ _ _ _; first | refine isi_rl (by walk_at "hp") ?_ | refine cb_len_scr (by (with_reducible assumption)) ?_ | refine cb_len_int (by walk_at "hp") ?_ ?_ | refine cb_append (by walk_at "hp") ?_ ?_) | (show CT _ _ _ _ _ _ _; refine ct_list_ref (by walk_at "hp") ?_ ?_) | (show If _ _ _; first | refine if_t ?_ | refine if_f ?_) | (show Rng _ _; first | refine rng1 ?_ ?_ | refine rng2 ?_ ?_))
      exact ⟨rfl, _, zs, by walk_at "hp", z1, by omega, by walk_at "nm", by walk_at "nm"⟩
    · repeat' (first | (show E _ _ _ _ _ _; first | refine e_name (by walk_at "nm") ?_ | refine e_int ?_ | refine e_bin ?_ | refine e_sub rfl ?_ | refine e_cmp rfl ?_ | refine e_callF (by (with_reducible assumption)) (by walk_at "gl") (by kernel_rfl) (by kernel_rfl) rfl ?_ | refine e_callB (by (with_reducible assumption)) (by walk_at "gl") (by kernel_rfl) rfl ?_ | refine e_callT (by (with_reducible assumption)) (by walk_at "gl") (by kernel_rfl) rfl ?_ | refine e_glob (by (with_reducible assumption)) (by kernel_rfl) (by walk_at "gl") ?_ | refine e_tuple ?_ | refine e_boolop ?_ | refine e_list ?_ | refine e_none ?_ | refine e_append rfl rfl rfl ?_ | refine e_comp (by (with_reducible assumption)) (by kernel_rfl) rfl ?_) | (show Sz _ _; refine sz rfl ?_) | (show Lst _ _ _; refine lst_ref (by walk_at "hp") ?_) | (show Es _ _ _ _ _ _; first | refine es_cons rfl ?_ | refine es_nil ?_) | (show Ss _ _ _ _ _ _; first | refine ss_asg ?_ | refine ss_expr ?_ | refine ss_ret ?_ | refine ss_nil ?_) | (show S _ _ _ _ _ _; first | refine s_comp (by (with_reducible assumption)) (by kernel_rfl) (by kernel_rfl) rfl ?_ | refine s_asg (by (with_reducible assumption)) rfl (by kernel_rfl) ?_ | refine s_ret ?_ | refine s_expr rfl ?_) | (show Bin _ _ _ _ _ _ _ _; first | refine bin_add ?_ | refine bin_sub ?_ | refine bin_mul ?_ ?_ | refine bin_mod ?_ ?_ | refine bin_div ?_ ?_ | refine bin_pow18 ?_ | refine bin_pow14 ?_) | (show Cmp _ _ _ _ _ _ _ _; first | refine cmp_lt ?_ | refine cmp_gt ?_ | refine cmp_eq ?_ | refine cmp_is_nn ?_ | refine cmp_is_vn rfl ?_) | (show Tru _ _ _ _ _ _; refine tru_bool ?_) | (show B _ _ _ _ _ _; first | refine b_cmp rfl ?_ | refine b_boolop ?_ | refine b_plain rfl ?_) | (show BL _ _ _ _ _ _ _; first | refine bl_or ?_ | refine bl_or_nil ?_) | (show EL _ _ _ _ _ _ _; first | refine el_one ?_ | refine el_and ?_) | (show Sub _ _ _ _ _ _ _; first | refine sb_tup ⟨by decide⟩ (by rfl) ?_ | refine sb_int (by walk_at "hp") ?_ ?_ | refine sb_scr (by (with_reducible assumption)) ?_ (by with_reducible assumption) ?_) | (show CB _ _ _ _ _ _ _; first | refine isi_rl (by walk_at "hp") ?_ | refine cb_len_scr (by (with_reducible assumption)) ?_ | refine cb_len_int (by walk_at "hp") ?_ ?_ | refine cb_append (by walk_at "hp") ?_ ?_) | (show CT _ _ _ _ _ _ _; refine ct_list_ref (by walk_at "hp") ?_ ?_) | (show If _ _ _; first | refine if_t ?_ | refine if_f ?_) | (show Rng _ _; first | refine rng1 ?_ ?_ | refine rng2 ?_ ?_))
      exact ⟨rfl, _, ys, by walk_at "hp", by omega, by omega, by walk_at "nm", by walk_at "nm"⟩
  rintro l hp ⟨i, xs, hi, hx1, hx2, l1, l2⟩
  clear x1 x2 hy
  have sx : Side (xs.length < 2 ^ 62) := ⟨by omega⟩
  have sz' : Side ((xs.map V.int).length ≤ sizeLine) := ⟨by rw [List.length_map, sizeLine_eq]; omega⟩
  repeat' (first | (first | (show E _ _ _ _ _ _; first | refine e_name (by walk_at "nm") ?_ | refine e_int ?_ | refine e_bin ?_ | refine e_sub rfl ?_ | refine e_cmp rfl ?_ | refine e_callF (by (with_reducible assumption)) (by walk_at "gl") (by kernel_rfl) (by kernel_rfl) rfl ?_ | refine e_callB (by (with_reducible assumption)) (by walk_at "gl") (by kernel_rfl) rfl ?_ | refine e_callT (by (with_reducible assumption)) (by walk_at "gl") (by kernel_rfl) rfl ?_ | refine e_glob (by (with_reducible assumption)) (by kernel_rfl) (by walk_at "gl") ?_ | refine e_tuple ?_ | refine e_boolop ?_ | refine e_list ?_ | refine e_none ?_ | refine e_append rfl rfl rfl ?_ | refine e_comp (by (with_reducible assumption)) (by kernel_rfl) rfl ?_) | (show Sz _ _; refine sz rfl ?_) | (show Lst _ _ _; refine lst_ref (by walk_at "hp") ?_) | (show Es _ _ _ _ _ _; first | refine es_cons rfl ?_ | refine es_nil ?_) | (show Ss _ _ _ _ _ _; first | refine ss_asg ?_ | refine ss_expr ?_ | refine ss_ret ?_ | refine ss_nil ?_) | (show S _ _ _ _ _ _; first | refine s_comp (by (with_reducible assumption)) (by kernel_rfl) (by kernel_rfl) rfl ?_ | refine s_asg (by (with_reducible assumption)) rfl (by kernel_rfl) ?_ | refine s_ret ?_ | refine s_expr rfl ?_) | (show Bin _ _ _ _ _ _ _ _; first | refine bin_add ?_ | refine bin_sub ?_ | refine bin_mul ?_ ?_ | refine bin_mod ?_ ?_ | refine bin_div ?_ ?_ | refine bin_pow18 ?_ | refine bin_pow14 ?_) | (show Cmp _ _ _ _ _ _ _ _; first | refine cmp_lt ?_ | refine cmp_gt ?_ | refine cmp_eq ?_ | refine cmp_is_nn ?_ | refine cmp_is_vn rfl ?_) | (show Tru _ _ _ _ _ _; refine tru_bool ?_) | (show B _ _ _ _ _ _; first | refine b_cmp rfl ?_ | refine b_boolop ?_ | refine b_plain rfl ?_) | (show BL _ _ _ _ _ _ _; first | refine bl_or ?_ | refine bl_or_nil ?_) | (show EL _ _ _ _ _ _ _; first | refine el_one ?_ | refine el_and ?_) | (show Sub _ _ _ _ _ _ _; first | refine sb_tup ⟨by decide⟩ (by rfl) ?_ | refine sb_int (by walk_at "hp") ?_ ?_ | refine sb_scr (by (with_reducible assumption)) ?_ (by with_reducible assumption) ?_) | (show CB _ _ _ _ _ _ _; first | refine isi_rl (by walk_at "hp") ?_ | refine cb_len_scr (by (with_reducible assumption)) ?_ | refine cb_len_int (by walk_at "hp") ?_ ?_ | refine cb_append (by walk_at "hp") ?_ ?_) | (show CT _ _ _ _ _ _ _; refine ct_list_ref (by walk_at "hp") ?_ ?_) | (show If _ _ _; first | refine if_t ?_ | refine if_f ?_) | (show Rng _ _; first | refine rng1 ?_ ?_ | refine rng2 ?_ ?_)) | refine cell_at_ok hn' ?_ ?_)
  all_goals try (first | assumption | (refine Side.mk ?_; first | assumption | decide | omega | exact .inr (by decide) | exact .inl (by decide) | exact .inr (by omega) | exact .inl (by omega) | (simp only [List.length_map, List.length_append, List.length_cons, List.length_nil, sizeLine] <;> omega)))
  have ht : 0 < 1 + cell ns 2 / 2001 % 900 ∧ 1 + cell ns 2 / 2001 % 900 < 1000 := by
    have h1 := Int.emod_lt_of_pos (cell ns 2 / 2001) (b := 900) (by omega)
    have h2 := Int.emod_nonneg (cell ns 2 / 2001) (b := 900) (by omega)
    omega
  generalize 1 + cell ns 2 / 2001 % 900 = tm at ht ⊢
  generalize cell ns 2 % 2001 - 1000 = mo
  generalize cell ns 1 * 48271 % (2 * 100000000000000 + 1) - 100000000000000 = by'
  have hi1 := app_get (t := [O.list (xs.map .int)]) hi
  refine sights_ok app_new ⟨by omega⟩ (fun hp₁ hK hd => ?_)
  have hi2 := hK _ _ hi1
  have hsl : (sg (g xs) xs.length).length ≤ 91 := Nat.le_trans (sgN_tri _ _ _) (tri_14 _ hx2)
  generalize (hp ++ [O.list (xs.map V.int)]).length = D at hd ⊢
  clear hi hi1 hK hp
  repeat' (first | (show E _ _ _ _ _ _; first | refine e_name (by walk_at "nm") ?_ | refine e_int ?_ | refine e_bin ?_ | refine e_sub rfl ?_ | refine e_cmp rfl ?_ | refine e_callF (by (with_reducible assumption)) (by walk_at "gl") (by kernel_rfl) (by kernel_rfl) rfl ?_ | refine e_callB (by (with_reducible assumption)) (by walk_at "gl") (by kernel_rfl) rfl ?_ | refine e_callT (by (with_reducible assumption)) (by walk_at "gl") (by kernel_rfl) rfl ?_ | refine e_glob (by (with_reducible assumption)) (by kernel_rfl) (by walk_at "gl") ?_ | refine e_tuple ?_ | refine e_boolop ?_ | refine e_list ?_ | refine e_none ?_ | refine e_append rfl rfl rfl ?_ | refine e_comp (by (with_reducible assumption)) (by kernel_rfl) rfl ?_) | (show Sz _ _; refine sz rfl ?_) | (show Lst _ _ _; refine lst_ref (by walk_at "hp") ?_) | (show Es _ _ _ _ _ _; first | refine es_cons rfl ?_ | refine es_nil ?_) | (show Ss _ _ _ _ _ _; first | refine ss_asg ?_ | refine ss_expr ?_ | refine ss_ret ?_ | refine ss_nil ?_) | (show S _ _ _ _ _ _; first | refine s_comp (by (with_reducible assumption)) (by kernel_rfl) (by kernel_rfl) rfl ?_ | refine s_asg (by (with_reducible assumption)) rfl (by kernel_rfl) ?_ | refine s_ret ?_ | refine s_expr rfl ?_) | (show Bin _ _ _ _ _ _ _ _; first | refine bin_add ?_ | refine bin_sub ?_ | refine bin_mul ?_ ?_ | refine bin_mod ?_ ?_ | refine bin_div ?_ ?_ | refine bin_pow18 ?_ | refine bin_pow14 ?_) | (show Cmp _ _ _ _ _ _ _ _; first | refine cmp_lt ?_ | refine cmp_gt ?_ | refine cmp_eq ?_ | refine cmp_is_nn ?_ | refine cmp_is_vn rfl ?_) | (show Tru _ _ _ _ _ _; refine tru_bool ?_) | (show B _ _ _ _ _ _; first | refine b_cmp rfl ?_ | refine b_boolop ?_ | refine b_plain rfl ?_) | (show BL _ _ _ _ _ _ _; first | refine bl_or ?_ | refine bl_or_nil ?_) | (show EL _ _ _ _ _ _ _; first | refine el_one ?_ | refine el_and ?_) | (show Sub _ _ _ _ _ _ _; first | refine sb_tup ⟨by decide⟩ (by rfl) ?_ | refine sb_int (by walk_at "hp") ?_ ?_ | refine sb_scr (by (with_reducible assumption)) ?_ (by with_reducible assumption) ?_) | (show CB _ _ _ _ _ _ _; first | refine isi_rl (by walk_at "hp") ?_ | refine cb_len_scr (by (with_reducible assumption)) ?_ | refine cb_len_int (by walk_at "hp") ?_ ?_ | refine cb_append (by walk_at "hp") ?_ ?_) | (show CT _ _ _ _ _ _ _; refine ct_list_ref (by walk_at "hp") ?_ ?_) | (show If _ _ _; first | refine if_t ?_ | refine if_f ?_) | (show Rng _ _; first | refine rng1 ?_ ?_ | refine rng2 ?_ ?_))
  refine i_range (by (with_reducible assumption)) gl_range (by kernel_rfl) rfl ?_
  repeat' (first | (show E _ _ _ _ _ _; first | refine e_name (by walk_at "nm") ?_ | refine e_int ?_ | refine e_bin ?_ | refine e_sub rfl ?_ | refine e_cmp rfl ?_ | refine e_callF (by (with_reducible assumption)) (by walk_at "gl") (by kernel_rfl) (by kernel_rfl) rfl ?_ | refine e_callB (by (with_reducible assumption)) (by walk_at "gl") (by kernel_rfl) rfl ?_ | refine e_callT (by (with_reducible assumption)) (by walk_at "gl") (by kernel_rfl) rfl ?_ | refine e_glob (by (with_reducible assumption)) (by kernel_rfl) (by walk_at "gl") ?_ | refine e_tuple ?_ | refine e_boolop ?_ | refine e_list ?_ | refine e_none ?_ | refine e_append rfl rfl rfl ?_ | refine e_comp (by (with_reducible assumption)) (by kernel_rfl) rfl ?_) | (show Sz _ _; refine sz rfl ?_) | (show Lst _ _ _; refine lst_ref (by walk_at "hp") ?_) | (show Es _ _ _ _ _ _; first | refine es_cons rfl ?_ | refine es_nil ?_) | (show Ss _ _ _ _ _ _; first | refine ss_asg ?_ | refine ss_expr ?_ | refine ss_ret ?_ | refine ss_nil ?_) | (show S _ _ _ _ _ _; first | refine s_comp (by (with_reducible assumption)) (by kernel_rfl) (by kernel_rfl) rfl ?_ | refine s_asg (by (with_reducible assumption)) rfl (by kernel_rfl) ?_ | refine s_ret ?_ | refine s_expr rfl ?_) | (show Bin _ _ _ _ _ _ _ _; first | refine bin_add ?_ | refine bin_sub ?_ | refine bin_mul ?_ ?_ | refine bin_mod ?_ ?_ | refine bin_div ?_ ?_ | refine bin_pow18 ?_ | refine bin_pow14 ?_) | (show Cmp _ _ _ _ _ _ _ _; first | refine cmp_lt ?_ | refine cmp_gt ?_ | refine cmp_eq ?_ | refine cmp_is_nn ?_ | refine cmp_is_vn rfl ?_) | (show Tru _ _ _ _ _ _; refine tru_bool ?_) | (show B _ _ _ _ _ _; first | refine b_cmp rfl ?_ | refine b_boolop ?_ | refine b_plain rfl ?_) | (show BL _ _ _ _ _ _ _; first | refine bl_or ?_ | refine bl_or_nil ?_) | (show EL _ _ _ _ _ _ _; first | refine el_one ?_ | refine el_and ?_) | (show Sub _ _ _ _ _ _ _; first | refine sb_tup ⟨by decide⟩ (by rfl) ?_ | refine sb_int (by walk_at "hp") ?_ ?_ | refine sb_scr (by (with_reducible assumption)) ?_ (by with_reducible assumption) ?_) | (show CB _ _ _ _ _ _ _; first | refine isi_rl (by walk_at "hp") ?_ | refine cb_len_scr (by (with_reducible assumption)) ?_ | refine cb_len_int (by walk_at "hp") ?_ ?_ | refine cb_append (by walk_at "hp") ?_ ?_) | (show CT _ _ _ _ _ _ _; refine ct_list_ref (by walk_at "hp") ?_ ?_) | (show If _ _ _; first | refine if_t ?_ | refine if_f ?_) | (show Rng _ _; first | refine rng1 ?_ ?_ | refine rng2 ?_ ?_))
  · exact sx
  · exact ⟨by omega⟩
  refine comp_ints (by (with_reducible assumption)) (by kernel_rfl) (fun k x => x = g xs k + by' * k + mo) (by rw [rngItems_length, sizeLine_eq]; omega) (fun _ => trivial) ?_ ?_
  · intro k hk vs hv
    rw [rngItems_length] at hk
    refine ⟨_, tgt1, fun c' hc' => ?_⟩
    rw [rngItems_get, Int.zero_add]
    have hi' := app_get (t := [O.list vs]) hi2
    repeat' (first | (show E _ _ _ _ _ _; first | refine e_name (by walk_at "nm") ?_ | refine e_int ?_ | refine e_bin ?_ | refine e_sub rfl ?_ | refine e_cmp rfl ?_ | refine e_callF (by (with_reducible assumption)) (by walk_at "gl") (by kernel_rfl) (by kernel_rfl) rfl ?_ | refine e_callB (by (with_reducible assumption)) (by walk_at "gl") (by kernel_rfl) rfl ?_ | refine e_callT (by (with_reducible assumption)) (by walk_at "gl") (by kernel_rfl) rfl ?_ | refine e_glob (by (with_reducible assumption)) (by kernel_rfl) (by walk_at "gl") ?_ | refine e_tuple ?_ | refine e_boolop ?_ | refine e_list ?_ | refine e_none ?_ | refine e_append rfl rfl rfl ?_ | refine e_comp (by (with_reducible assumption)) (by kernel_rfl) rfl ?_) | (show Sz _ _; refine sz rfl ?_) | (show Lst _ _ _; refine lst_ref (by walk_at "hp") ?_) | (show Es _ _ _ _ _ _; first | refine es_cons rfl ?_ | refine es_nil ?_) | (show Ss _ _ _ _ _ _; first | refine ss_asg ?_ | refine ss_expr ?_ | refine ss_ret ?_ | refine ss_nil ?_) | (show S _ _ _ _ _ _; first | refine s_comp (by (with_reducible assumption)) (by kernel_rfl) (by kernel_rfl) rfl ?_ | refine s_asg (by (with_reducible assumption)) rfl (by kernel_rfl) ?_ | refine s_ret ?_ | refine s_expr rfl ?_) | (show Bin _ _ _ _ _ _ _ _; first | refine bin_add ?_ | refine bin_sub ?_ | refine bin_mul ?_ ?_ | refine bin_mod ?_ ?_ | refine bin_div ?_ ?_ | refine bin_pow18 ?_ | refine bin_pow14 ?_) | (show Cmp _ _ _ _ _ _ _ _; first | refine cmp_lt ?_ | refine cmp_gt ?_ | refine cmp_eq ?_ | refine cmp_is_nn ?_ | refine cmp_is_vn rfl ?_) | (show Tru _ _ _ _ _ _; refine tru_bool ?_) | (show B _ _ _ _ _ _; first | refine b_cmp rfl ?_ | refine b_boolop ?_ | refine b_plain rfl ?_) | (show BL _ _ _ _ _ _ _; first | refine bl_or ?_ | refine bl_or_nil ?_) | (show EL _ _ _ _ _ _ _; first | refine el_one ?_ | refine el_and ?_) | (show Sub _ _ _ _ _ _ _; first | refine sb_tup ⟨by decide⟩ (by rfl) ?_ | refine sb_int (by walk_at "hp") ?_ ?_ | refine sb_scr (by (with_reducible assumption)) ?_ (by with_reducible assumption) ?_) | (show CB _ _ _ _ _ _ _; first | refine isi_rl (by walk_at "hp") ?_ | refine cb_len_scr (by (with_reducible assumption)) ?_ | refine cb_len_int (by walk_at "hp") ?_ ?_ | refine cb_append (by walk_at "hp") ?_ ?_) | (show CT _ _ _ _ _ _ _; refine ct_list_ref (by walk_at "hp") ?_ ?_) | (show If _ _ _; first | refine if_t ?_ | refine if_f ?_) | (show Rng _ _; first | refine rng1 ?_ ?_ | refine rng2 ?_ ?_))
    · exact ⟨by omega⟩
    · exact ⟨.inr (by omega)⟩
    exact ⟨rfl, _, rfl, rfl⟩
  intro ts t1 tR
  rw [rngItems_length] at t1
  have hT := app_new (hp := hp₁) (o := O.list (ts.map .int))
  have hi3 := app_get (t := [O.list (ts.map .int)]) hi2
  have hd3 := app_get (t := [O.list (ts.map .int)]) hd
  have hTl : i < hp₁.length ∧ D < hp₁.length := ⟨get_lt hi2, get_lt hd⟩
  generalize hp₁ ++ [O.list (ts.map .int)] = hp at hT hi3 hd3 ⊢
  generalize hp₁.length = TI at hT hTl ⊢
  clear hi2 hd hp₁
  repeat' (first | (show E _ _ _ _ _ _; first | refine e_name (by walk_at "nm") ?_ | refine e_int ?_ | refine e_bin ?_ | refine e_sub rfl ?_ | refine e_cmp rfl ?_ | refine e_callF (by (with_reducible assumption)) (by walk_at "gl") (by kernel_rfl) (by kernel_rfl) rfl ?_ | refine e_callB (by (with_reducible assumption)) (by walk_at "gl") (by kernel_rfl) rfl ?_ | refine e_callT (by (with_reducible assumption)) (by walk_at "gl") (by kernel_rfl) rfl ?_ | refine e_glob (by (with_reducible assumption)) (by kernel_rfl) (by walk_at "gl") ?_ | refine e_tuple ?_ | refine e_boolop ?_ | refine e_list ?_ | refine e_none ?_ | refine e_append rfl rfl rfl ?_ | refine e_comp (by (with_reducible assumption)) (by kernel_rfl) rfl ?_) | (show Sz _ _; refine sz rfl ?_) | (show Lst _ _ _; refine lst_ref (by walk_at "hp") ?_) | (show Es _ _ _ _ _ _; first | refine es_cons rfl ?_ | refine es_nil ?_) | (show Ss _ _ _ _ _ _; first | refine ss_asg ?_ | refine ss_expr ?_ | refine ss_ret ?_ | refine ss_nil ?_) | (show S _ _ _ _ _ _; first | refine s_comp (by (with_reducible assumption)) (by kernel_rfl) (by kernel_rfl) rfl ?_ | refine s_asg (by (with_reducible assumption)) rfl (by kernel_rfl) ?_ | refine s_ret ?_ | refine s_expr rfl ?_) | (show Bin _ _ _ _ _ _ _ _; first | refine bin_add ?_ | refine bin_sub ?_ | refine bin_mul ?_ ?_ | refine bin_mod ?_ ?_ | refine bin_div ?_ ?_ | refine bin_pow18 ?_ | refine bin_pow14 ?_) | (show Cmp _ _ _ _ _ _ _ _; first | refine cmp_lt ?_ | refine cmp_gt ?_ | refine cmp_eq ?_ | refine cmp_is_nn ?_ | refine cmp_is_vn rfl ?_) | (show Tru _ _ _ _ _ _; refine tru_bool ?_) | (show B _ _ _ _ _ _; first | refine b_cmp rfl ?_ | refine b_boolop ?_ | refine b_plain rfl ?_) | (show BL _ _ _ _ _ _ _; first | refine bl_or ?_ | refine bl_or_nil ?_) | (show EL _ _ _ _ _ _ _; first | refine el_one ?_ | refine el_and ?_) | (show Sub _ _ _ _ _ _ _; first | refine sb_tup ⟨by decide⟩ (by rfl) ?_ | refine sb_int (by walk_at "hp") ?_ ?_ | refine sb_scr (by (with_reducible assumption)) ?_ (by with_reducible assumption) ?_) | (show CB _ _ _ _ _ _ _; first | refine isi_rl (by walk_at "hp") ?_ | refine cb_len_scr (by (with_reducible assumption)) ?_ | refine cb_len_int (by walk_at "hp") ?_ ?_ | refine cb_append (by walk_at "hp") ?_ ?_) | (show CT _ _ _ _ _ _ _; refine ct_list_ref (by walk_at "hp") ?_ ?_) | (show If _ _ _; first | refine if_t ?_ | refine if_f ?_) | (show Rng _ _; first | refine rng1 ?_ ?_ | refine rng2 ?_ ?_))
  refine i_range (by (with_reducible assumption)) gl_range (by kernel_rfl) rfl ?_
  repeat' (first | (show E _ _ _ _ _ _; first | refine e_name (by walk_at "nm") ?_ | refine e_int ?_ | refine e_bin ?_ | refine e_sub rfl ?_ | refine e_cmp rfl ?_ | refine e_callF (by (with_reducible assumption)) (by walk_at "gl") (by kernel_rfl) (by kernel_rfl) rfl ?_ | refine e_callB (by (with_reducible assumption)) (by walk_at "gl") (by kernel_rfl) rfl ?_ | refine e_callT (by (with_reducible assumption)) (by walk_at "gl") (by kernel_rfl) rfl ?_ | refine e_glob (by (with_reducible assumption)) (by kernel_rfl) (by walk_at "gl") ?_ | refine e_tuple ?_ | refine e_boolop ?_ | refine e_list ?_ | refine e_none ?_ | refine e_append rfl rfl rfl ?_ | refine e_comp (by (with_reducible assumption)) (by kernel_rfl) rfl ?_) | (show Sz _ _; refine sz rfl ?_) | (show Lst _ _ _; refine lst_ref (by walk_at "hp") ?_) | (show Es _ _ _ _ _ _; first | refine es_cons rfl ?_ | refine es_nil ?_) | (show Ss _ _ _ _ _ _; first | refine ss_asg ?_ | refine ss_expr ?_ | refine ss_ret ?_ | refine ss_nil ?_) | (show S _ _ _ _ _ _; first | refine s_comp (by (with_reducible assumption)) (by kernel_rfl) (by kernel_rfl) rfl ?_ | refine s_asg (by (with_reducible assumption)) rfl (by kernel_rfl) ?_ | refine s_ret ?_ | refine s_expr rfl ?_) | (show Bin _ _ _ _ _ _ _ _; first | refine bin_add ?_ | refine bin_sub ?_ | refine bin_mul ?_ ?_ | refine bin_mod ?_ ?_ | refine bin_div ?_ ?_ | refine bin_pow18 ?_ | refine bin_pow14 ?_) | (show Cmp _ _ _ _ _ _ _ _; first | refine cmp_lt ?_ | refine cmp_gt ?_ | refine cmp_eq ?_ | refine cmp_is_nn ?_ | refine cmp_is_vn rfl ?_) | (show Tru _ _ _ _ _ _; refine tru_bool ?_) | (show B _ _ _ _ _ _; first | refine b_cmp rfl ?_ | refine b_boolop ?_ | refine b_plain rfl ?_) | (show BL _ _ _ _ _ _ _; first | refine bl_or ?_ | refine bl_or_nil ?_) | (show EL _ _ _ _ _ _ _; first | refine el_one ?_ | refine el_and ?_) | (show Sub _ _ _ _ _ _ _; first | refine sb_tup ⟨by decide⟩ (by rfl) ?_ | refine sb_int (by walk_at "hp") ?_ ?_ | refine sb_scr (by (with_reducible assumption)) ?_ (by with_reducible assumption) ?_) | (show CB _ _ _ _ _ _ _; first | refine isi_rl (by walk_at "hp") ?_ | refine cb_len_scr (by (with_reducible assumption)) ?_ | refine cb_len_int (by walk_at "hp") ?_ ?_ | refine cb_append (by walk_at "hp") ?_ ?_) | (show CT _ _ _ _ _ _ _; refine ct_list_ref (by walk_at "hp") ?_ ?_) | (show If _ _ _; first | refine if_t ?_ | refine if_f ?_) | (show Rng _ _; first | refine rng1 ?_ ?_ | refine rng2 ?_ ?_))
  · exact sx
  · exact ⟨by omega⟩
  refine comp_ints (by (with_reducible assumption)) (by kernel_rfl) (fun k x => x = g xs ((xs.length : Int) - 1 - k)) (by rw [rngItems_length, sizeLine_eq]; omega) (fun _ => trivial) ?_ ?_
  · intro k hk vs hv
    rw [rngItems_length] at hk
    refine ⟨_, tgt1, fun c' hc' => ?_⟩
    rw [rngItems_get, Int.zero_add]
    have hi' := app_get (t := [O.list vs]) hi3
    repeat' (first | (show E _ _ _ _ _ _; first | refine e_name (by walk_at "nm") ?_ | refine e_int ?_ | refine e_bin ?_ | refine e_sub rfl ?_ | refine e_cmp rfl ?_ | refine e_callF (by (with_reducible assumption)) (by walk_at "gl") (by kernel_rfl) (by kernel_rfl) rfl ?_ | refine e_callB (by (with_reducible assumption)) (by walk_at "gl") (by kernel_rfl) rfl ?_ | refine e_callT (by (with_reducible assumption)) (by walk_at "gl") (by kernel_rfl) rfl ?_ | refine e_glob (by (with_reducible assumption)) (by kernel_rfl) (by walk_at "gl") ?_ | refine e_tuple ?_ | refine e_boolop ?_ | refine e_list ?_ | refine e_none ?_ | refine e_append rfl rfl rfl ?_ | refine e_comp (by (with_reducible assumption)) (by kernel_rfl) rfl ?_) | (show Sz _ _; refine sz rfl ?_) | (show Lst _ _ _; refine lst_ref (by walk_at "hp") ?_) | (show Es _ _ _ _ _ _; first | refine es_cons rfl ?_ | refine es_nil ?_) | (show Ss _ _ _ _ _ _; first | refine ss_asg ?_ | refine ss_expr ?_ | refine ss_ret ?_ | refine ss_nil ?_) | (show S _ _ _ _ _ _; first | refine s_comp (by (with_reducible assumption)) (by kernel_rfl) (by kernel_rfl) rfl ?_ | refine s_asg (by (with_reducible assumption)) rfl (by kernel_rfl) ?_ | refine s_ret ?_ | refine s_expr rfl ?_) | (show Bin _ _ _ _ _ _ _ _; first | refine bin_add ?_ | refine bin_sub ?_ | refine bin_mul ?_ ?_ | refine bin_mod ?_ ?_ | refine bin_div ?_ ?_ | refine bin_pow18 ?_ | refine bin_pow14 ?_) | (show Cmp _ _ _ _ _ _ _ _; first | refine cmp_lt ?_ | refine cmp_gt ?_ | refine cmp_eq ?_ | refine cmp_is_nn ?_ | refine cmp_is_vn rfl ?_) | (show Tru _ _ _ _ _ _; refine tru_bool ?_) | (show B _ _ _ _ _ _; first | refine b_cmp rfl ?_ | refine b_boolop ?_ | refine b_plain rfl ?_) | (show BL _ _ _ _ _ _ _; first | refine bl_or ?_ | refine bl_or_nil ?_) | (show EL _ _ _ _ _ _ _; first | refine el_one ?_ | refine el_and ?_) | (show Sub _ _ _ _ _ _ _; first | refine sb_tup ⟨by decide⟩ (by rfl) ?_ | refine sb_int (by walk_at "hp") ?_ ?_ | refine sb_scr (by (with_reducible assumption)) ?_ (by with_reducible assumption) ?_) | (show CB _ _ _ _ _ _ _; first | refine isi_rl (by walk_at "hp") ?_ | refine cb_len_scr (by (with_reducible assumption)) ?_ | refine cb_len_int (by walk_at "hp") ?_ ?_ | refine cb_append (by walk_at "hp") ?_ ?_) | (show CT _ _ _ _ _ _ _; refine ct_list_ref (by walk_at "hp") ?_ ?_) | (show If _ _ _; first | refine if_t ?_ | refine if_f ?_) | (show Rng _ _; first | refine rng1 ?_ ?_ | refine rng2 ?_ ?_))
    · exact ⟨by omega⟩
    exact ⟨rfl, _, rfl, rfl⟩
  intro us u1 uR
  rw [rngItems_length] at u1
  have hU := app_new (hp := hp) (o := O.list (us.map .int))
  have hi4 := app_get (t := [O.list (us.map .int)]) hi3
  have hd4 := app_get (t := [O.list (us.map .int)]) hd3
  have hT4 := app_get (t := [O.list (us.map .int)]) hT
  have hUl : TI < hp.length := get_lt hT
  generalize hp ++ [O.list (us.map .int)] = hp₁ at hU hi4 hd4 hT4 ⊢
  generalize hp.length = UI at hU hUl ⊢
  clear hi3 hd3 hT hp
  repeat' (first | (show E _ _ _ _ _ _; first | refine e_name (by walk_at "nm") ?_ | refine e_int ?_ | refine e_bin ?_ | refine e_sub rfl ?_ | refine e_cmp rfl ?_ | refine e_callF (by (with_reducible assumption)) (by walk_at "gl") (by kernel_rfl) (by kernel_rfl) rfl ?_ | refine e_callB (by (with_reducible assumption)) (by walk_at "gl") (by kernel_rfl) rfl ?_ | refine e_callT (by (with_reducible assumption)) (by walk_at "gl") (by kernel_rfl) rfl ?_ | refine e_glob (by (with_reducible assumption)) (by kernel_rfl) (by walk_at "gl") ?_ | refine e_tuple ?_ | refine e_boolop ?_ | refine e_list ?_ | refine e_none ?_ | refine e_append rfl rfl rfl ?_ | refine e_comp (by (with_reducible assumption)) (by kernel_rfl) rfl ?_) | (show Sz _ _; refine sz rfl ?_) | (show Lst _ _ _; refine lst_ref (by walk_at "hp") ?_) | (show Es _ _ _ _ _ _; first | refine es_cons rfl ?_ | refine es_nil ?_) | (show Ss _ _ _ _ _ _; first | refine ss_asg ?_ | refine ss_expr ?_ | refine ss_ret ?_ | refine ss_nil ?_) | (show S _ _ _ _ _ _; first | refine s_comp (by (with_reducible assumption)) (by kernel_rfl) (by kernel_rfl) rfl ?_ | refine s_asg (by (with_reducible assumption)) rfl (by kernel_rfl) ?_ | refine s_ret ?_ | refine s_expr rfl ?_) | (show Bin _ _ _ _ _ _ _ _; first | refine bin_add ?_ | refine bin_sub ?_ | refine bin_mul ?_ ?_ | refine bin_mod ?_ ?_ | refine bin_div ?_ ?_ | refine bin_pow18 ?_ | refine bin_pow14 ?_) | (show Cmp _ _ _ _ _ _ _ _; first | refine cmp_lt ?_ | refine cmp_gt ?_ | refine cmp_eq ?_ | refine cmp_is_nn ?_ | refine cmp_is_vn rfl ?_) | (show Tru _ _ _ _ _ _; refine tru_bool ?_) | (show B _ _ _ _ _ _; first | refine b_cmp rfl ?_ | refine b_boolop ?_ | refine b_plain rfl ?_) | (show BL _ _ _ _ _ _ _; first | refine bl_or ?_ | refine bl_or_nil ?_) | (show EL _ _ _ _ _ _ _; first | refine el_one ?_ | refine el_and ?_) | (show Sub _ _ _ _ _ _ _; first | refine sb_tup ⟨by decide⟩ (by rfl) ?_ | refine sb_int (by walk_at "hp") ?_ ?_ | refine sb_scr (by (with_reducible assumption)) ?_ (by with_reducible assumption) ?_) | (show CB _ _ _ _ _ _ _; first | refine isi_rl (by walk_at "hp") ?_ | refine cb_len_scr (by (with_reducible assumption)) ?_ | refine cb_len_int (by walk_at "hp") ?_ ?_ | refine cb_append (by walk_at "hp") ?_ ?_) | (show CT _ _ _ _ _ _ _; refine ct_list_ref (by walk_at "hp") ?_ ?_) | (show If _ _ _; first | refine if_t ?_ | refine if_f ?_) | (show Rng _ _; first | refine rng1 ?_ ?_ | refine rng2 ?_ ?_))
  refine i_val ?_
  repeat' (first | (show E _ _ _ _ _ _; first | refine e_name (by walk_at "nm") ?_ | refine e_int ?_ | refine e_bin ?_ | refine e_sub rfl ?_ | refine e_cmp rfl ?_ | refine e_callF (by (with_reducible assumption)) (by walk_at "gl") (by kernel_rfl) (by kernel_rfl) rfl ?_ | refine e_callB (by (with_reducible assumption)) (by walk_at "gl") (by kernel_rfl) rfl ?_ | refine e_callT (by (with_reducible assumption)) (by walk_at "gl") (by kernel_rfl) rfl ?_ | refine e_glob (by (with_reducible assumption)) (by kernel_rfl) (by walk_at "gl") ?_ | refine e_tuple ?_ | refine e_boolop ?_ | refine e_list ?_ | refine e_none ?_ | refine e_append rfl rfl rfl ?_ | refine e_comp (by (with_reducible assumption)) (by kernel_rfl) rfl ?_) | (show Sz _ _; refine sz rfl ?_) | (show Lst _ _ _; refine lst_ref (by walk_at "hp") ?_) | (show Es _ _ _ _ _ _; first | refine es_cons rfl ?_ | refine es_nil ?_) | (show Ss _ _ _ _ _ _; first | refine ss_asg ?_ | refine ss_expr ?_ | refine ss_ret ?_ | refine ss_nil ?_) | (show S _ _ _ _ _ _; first | refine s_comp (by (with_reducible assumption)) (by kernel_rfl) (by kernel_rfl) rfl ?_ | refine s_asg (by (with_reducible assumption)) rfl (by kernel_rfl) ?_ | refine s_ret ?_ | refine s_expr rfl ?_) | (show Bin _ _ _ _ _ _ _ _; first | refine bin_add ?_ | refine bin_sub ?_ | refine bin_mul ?_ ?_ | refine bin_mod ?_ ?_ | refine bin_div ?_ ?_ | refine bin_pow18 ?_ | refine bin_pow14 ?_) | (show Cmp _ _ _ _ _ _ _ _; first | refine cmp_lt ?_ | refine cmp_gt ?_ | refine cmp_eq ?_ | refine cmp_is_nn ?_ | refine cmp_is_vn rfl ?_) | (show Tru _ _ _ _ _ _; refine tru_bool ?_) | (show B _ _ _ _ _ _; first | refine b_cmp rfl ?_ | refine b_boolop ?_ | refine b_plain rfl ?_) | (show BL _ _ _ _ _ _ _; first | refine bl_or ?_ | refine bl_or_nil ?_) | (show EL _ _ _ _ _ _ _; first | refine el_one ?_ | refine el_and ?_) | (show Sub _ _ _ _ _ _ _; first | refine sb_tup ⟨by decide⟩ (by rfl) ?_ | refine sb_int (by walk_at "hp") ?_ ?_ | refine sb_scr (by (with_reducible assumption)) ?_ (by with_reducible assumption) ?_) | (show CB _ _ _ _ _ _ _; first | refine isi_rl (by walk_at "hp") ?_ | refine cb_len_scr (by (with_reducible assumption)) ?_ | refine cb_len_int (by walk_at "hp") ?_ ?_ | refine cb_append (by walk_at "hp") ?_ ?_) | (show CT _ _ _ _ _ _ _; refine ct_list_ref (by walk_at "hp") ?_ ?_) | (show If _ _ _; first | refine if_t ?_ | refine if_f ?_) | (show Rng _ _; first | refine rng1 ?_ ?_ | refine rng2 ?_ ?_))
  refine srv_ref (by (with_reducible assumption)) hi4 ?_
  refine comp_ints (by (with_reducible assumption)) (by kernel_rfl) (fun k x => x = g xs k * tm) sz'.h (fun vs => app_get hi4) ?_ ?_
  · intro k hk vs hv
    rw [List.length_map] at hk
    refine ⟨_, tgt1, fun c' hc' => ?_⟩
    rw [List.getElem_map, g_nat hk]
    repeat' (first | (show E _ _ _ _ _ _; first | refine e_name (by walk_at "nm") ?_ | refine e_int ?_ | refine e_bin ?_ | refine e_sub rfl ?_ | refine e_cmp rfl ?_ | refine e_callF (by (with_reducible assumption)) (by walk_at "gl") (by kernel_rfl) (by kernel_rfl) rfl ?_ | refine e_callB (by (with_reducible assumption)) (by walk_at "gl") (by kernel_rfl) rfl ?_ | refine e_callT (by (with_reducible assumption)) (by walk_at "gl") (by kernel_rfl) rfl ?_ | refine e_glob (by (with_reducible assumption)) (by kernel_rfl) (by walk_at "gl") ?_ | refine e_tuple ?_ | refine e_boolop ?_ | refine e_list ?_ | refine e_none ?_ | refine e_append rfl rfl rfl ?_ | refine e_comp (by (with_reducible assumption)) (by kernel_rfl) rfl ?_) | (show Sz _ _; refine sz rfl ?_) | (show Lst _ _ _; refine lst_ref (by walk_at "hp") ?_) | (show Es _ _ _ _ _ _; first | refine es_cons rfl ?_ | refine es_nil ?_) | (show Ss _ _ _ _ _ _; first | refine ss_asg ?_ | refine ss_expr ?_ | refine ss_ret ?_ | refine ss_nil ?_) | (show S _ _ _ _ _ _; first | refine s_comp (by (with_reducible assumption)) (by kernel_rfl) (by kernel_rfl) rfl ?_ | refine s_asg (by (with_reducible assumption)) rfl (by kernel_rfl) ?_ | refine s_ret ?_ | refine s_expr rfl ?_) | (show Bin _ _ _ _ _ _ _ _; first | refine bin_add ?_ | refine bin_sub ?_ | refine bin_mul ?_ ?_ | refine bin_mod ?_ ?_ | refine bin_div ?_ ?_ | refine bin_pow18 ?_ | refine bin_pow14 ?_) | (show Cmp _ _ _ _ _ _ _ _; first | refine cmp_lt ?_ | refine cmp_gt ?_ | refine cmp_eq ?_ | refine cmp_is_nn ?_ | refine cmp_is_vn rfl ?_) | (show Tru _ _ _ _ _ _; refine tru_bool ?_) | (show B _ _ _ _ _ _; first | refine b_cmp rfl ?_ | refine b_boolop ?_ | refine b_plain rfl ?_) | (show BL _ _ _ _ _ _ _; first | refine bl_or ?_ | refine bl_or_nil ?_) | (show EL _ _ _ _ _ _ _; first | refine el_one ?_ | refine el_and ?_) | (show Sub _ _ _ _ _ _ _; first | refine sb_tup ⟨by decide⟩ (by rfl) ?_ | refine sb_int (by walk_at "hp") ?_ ?_ | refine sb_scr (by (with_reducible assumption)) ?_ (by with_reducible assumption) ?_) | (show CB _ _ _ _ _ _ _; first | refine isi_rl (by walk_at "hp") ?_ | refine cb_len_scr (by (with_reducible assumption)) ?_ | refine cb_len_int (by walk_at "hp") ?_ ?_ | refine cb_append (by walk_at "hp") ?_ ?_) | (show CT _ _ _ _ _ _ _; refine ct_list_ref (by walk_at "hp") ?_ ?_) | (show If _ _ _; first | refine if_t ?_ | refine if_f ?_) | (show Rng _ _; first | refine rng1 ?_ ?_ | refine rng2 ?_ ?_))
    · exact ⟨.inr (by omega)⟩
    exact ⟨rfl, _, rfl, rfl⟩
  intro ws w1 wR
  rw [List.length_map] at w1
  have hW := app_new (hp := hp₁) (o := O.list (ws.map .int))
  have hd5 := app_get (t := [O.list (ws.map .int)]) hd4
  have hT5 := app_get (t := [O.list (ws.map .int)]) hT4
  have hU5 := app_get (t := [O.list (ws.map .int)]) hU
  have hWl : UI < hp₁.length := get_lt hU
  generalize hp₁ ++ [O.list (ws.map .int)] = hp at hW hd5 hT5 hU5 ⊢
  generalize hp₁.length = WI at hW hWl ⊢
  clear hi4 hd4 hT4 hU hp₁
  have st : Side ((ts.map V.int).length ≤ sizeLine) := ⟨by rw [List.length_map, sizeLine_eq]; omega⟩
  have eT : sg (g ts) ts.length = sg (g xs) xs.length := by
    rw [show ts.length = xs.length by omega]
    refine sg_tilt (t := by') (c := mo) fun x x0 x1 => ?_
    have := tR x.toNat (by omega)
    rwa [g_nat (by omega), show ((x.toNat : Nat) : Int) = x by omega] at this
  have eW : sg (g ws) ws.length = sg (g xs) xs.length := by
    rw [show ws.length = xs.length by omega]
    refine sg_times (t := tm) ht.1 fun x x0 x1 => ?_
    have := wR x.toNat (by omega)
    rwa [g_nat (by omega), show ((x.toNat : Nat) : Int) = x by omega] at this
  have eU : ∀ x : Int, 0 ≤ x → x < xs.length → g us ((xs.length : Int) - 1 - x) = g xs x := fun x x0 x1 => by
    have := uR ((xs.length : Int) - 1 - x).toNat (by omega)
    rwa [g_nat (by omega), show ((((xs.length : Int) - 1 - x).toNat : Nat) : Int) = (xs.length : Int) - 1 - x by omega, show (xs.length : Int) - 1 - ((xs.length : Int) - 1 - x) = x by omega] at this
  repeat' (first | (show E _ _ _ _ _ _; first | refine e_name (by walk_at "nm") ?_ | refine e_int ?_ | refine e_bin ?_ | refine e_sub rfl ?_ | refine e_cmp rfl ?_ | refine e_callF (by (with_reducible assumption)) (by walk_at "gl") (by kernel_rfl) (by kernel_rfl) rfl ?_ | refine e_callB (by (with_reducible assumption)) (by walk_at "gl") (by kernel_rfl) rfl ?_ | refine e_callT (by (with_reducible assumption)) (by walk_at "gl") (by kernel_rfl) rfl ?_ | refine e_glob (by (with_reducible assumption)) (by kernel_rfl) (by walk_at "gl") ?_ | refine e_tuple ?_ | refine e_boolop ?_ | refine e_list ?_ | refine e_none ?_ | refine e_append rfl rfl rfl ?_ | refine e_comp (by (with_reducible assumption)) (by kernel_rfl) rfl ?_) | (show Sz _ _; refine sz rfl ?_) | (show Lst _ _ _; refine lst_ref (by walk_at "hp") ?_) | (show Es _ _ _ _ _ _; first | refine es_cons rfl ?_ | refine es_nil ?_) | (show Ss _ _ _ _ _ _; first | refine ss_asg ?_ | refine ss_expr ?_ | refine ss_ret ?_ | refine ss_nil ?_) | (show S _ _ _ _ _ _; first | refine s_comp (by (with_reducible assumption)) (by kernel_rfl) (by kernel_rfl) rfl ?_ | refine s_asg (by (with_reducible assumption)) rfl (by kernel_rfl) ?_ | refine s_ret ?_ | refine s_expr rfl ?_) | (show Bin _ _ _ _ _ _ _ _; first | refine bin_add ?_ | refine bin_sub ?_ | refine bin_mul ?_ ?_ | refine bin_mod ?_ ?_ | refine bin_div ?_ ?_ | refine bin_pow18 ?_ | refine bin_pow14 ?_) | (show Cmp _ _ _ _ _ _ _ _; first | refine cmp_lt ?_ | refine cmp_gt ?_ | refine cmp_eq ?_ | refine cmp_is_nn ?_ | refine cmp_is_vn rfl ?_) | (show Tru _ _ _ _ _ _; refine tru_bool ?_) | (show B _ _ _ _ _ _; first | refine b_cmp rfl ?_ | refine b_boolop ?_ | refine b_plain rfl ?_) | (show BL _ _ _ _ _ _ _; first | refine bl_or ?_ | refine bl_or_nil ?_) | (show EL _ _ _ _ _ _ _; first | refine el_one ?_ | refine el_and ?_) | (show Sub _ _ _ _ _ _ _; first | refine sb_tup ⟨by decide⟩ (by rfl) ?_ | refine sb_int (by walk_at "hp") ?_ ?_ | refine sb_scr (by (with_reducible assumption)) ?_ (by with_reducible assumption) ?_) | (show CB _ _ _ _ _ _ _; first | refine isi_rl (by walk_at "hp") ?_ | refine cb_len_scr (by (with_reducible assumption)) ?_ | refine cb_len_int (by walk_at "hp") ?_ ?_ | refine cb_append (by walk_at "hp") ?_ ?_) | (show CT _ _ _ _ _ _ _; refine ct_list_ref (by walk_at "hp") ?_ ?_) | (show If _ _ _; first | refine if_t ?_ | refine if_f ?_) | (show Rng _ _; first | refine rng1 ?_ ?_ | refine rng2 ?_ ?_))
  · exact st
  have hK5 := app_new (hp := hp) (o := O.list (ts.map .int))
  have hW6 := app_get (t := [O.list (ts.map .int)]) hW
  have hd6 := app_get (t := [O.list (ts.map .int)]) hd5
  have hT6 := app_get (t := [O.list (ts.map .int)]) hT5
  have hU6 := app_get (t := [O.list (ts.map .int)]) hU5
  generalize hp ++ [O.list (ts.map .int)] = hp₁ at hK5 hW6 hd6 hT6 hU6 ⊢
  generalize hp.length = KI at hK5 ⊢
  clear hW hd5 hT5 hU5 hp
  refine ss_if ?_
  repeat' (first | (show E _ _ _ _ _ _; first | refine e_name (by walk_at "nm") ?_ | refine e_int ?_ | refine e_bin ?_ | refine e_sub rfl ?_ | refine e_cmp rfl ?_ | refine e_callF (by (with_reducible assumption)) (by walk_at "gl") (by kernel_rfl) (by kernel_rfl) rfl ?_ | refine e_callB (by (with_reducible assumption)) (by walk_at "gl") (by kernel_rfl) rfl ?_ | refine e_callT (by (with_reducible assumption)) (by walk_at "gl") (by kernel_rfl) rfl ?_ | refine e_glob (by (with_reducible assumption)) (by kernel_rfl) (by walk_at "gl") ?_ | refine e_tuple ?_ | refine e_boolop ?_ | refine e_list ?_ | refine e_none ?_ | refine e_append rfl rfl rfl ?_ | refine e_comp (by (with_reducible assumption)) (by kernel_rfl) rfl ?_) | (show Sz _ _; refine sz rfl ?_) | (show Lst _ _ _; refine lst_ref (by walk_at "hp") ?_) | (show Es _ _ _ _ _ _; first | refine es_cons rfl ?_ | refine es_nil ?_) | (show Ss _ _ _ _ _ _; first | refine ss_asg ?_ | refine ss_expr ?_ | refine ss_ret ?_ | refine ss_nil ?_) | (show S _ _ _ _ _ _; first | refine s_comp (by (with_reducible assumption)) (by kernel_rfl) (by kernel_rfl) rfl ?_ | refine s_asg (by (with_reducible assumption)) rfl (by kernel_rfl) ?_ | refine s_ret ?_ | refine s_expr rfl ?_) | (show Bin _ _ _ _ _ _ _ _; first | refine bin_add ?_ | refine bin_sub ?_ | refine bin_mul ?_ ?_ | refine bin_mod ?_ ?_ | refine bin_div ?_ ?_ | refine bin_pow18 ?_ | refine bin_pow14 ?_) | (show Cmp _ _ _ _ _ _ _ _; first | refine cmp_lt ?_ | refine cmp_gt ?_ | refine cmp_eq ?_ | refine cmp_is_nn ?_ | refine cmp_is_vn rfl ?_) | (show Tru _ _ _ _ _ _; refine tru_bool ?_) | (show B _ _ _ _ _ _; first | refine b_cmp rfl ?_ | refine b_boolop ?_ | refine b_plain rfl ?_) | (show BL _ _ _ _ _ _ _; first | refine bl_or ?_ | refine bl_or_nil ?_) | (show EL _ _ _ _ _ _ _; first | refine el_one ?_ | refine el_and ?_) | (show Sub _ _ _ _ _ _ _; first | refine sb_tup ⟨by decide⟩ (by rfl) ?_ | refine sb_int (by walk_at "hp") ?_ ?_ | refine sb_scr (by (with_reducible assumption)) ?_ (by with_reducible assumption) ?_) | (show CB _ _ _ _ _ _ _; first | refine isi_rl (by walk_at "hp") ?_ | refine cb_len_scr (by (with_reducible assumption)) ?_ | refine cb_len_int (by walk_at "hp") ?_ ?_ | refine cb_append (by walk_at "hp") ?_ ?_) | (show CT _ _ _ _ _ _ _; refine ct_list_ref (by walk_at "hp") ?_ ?_) | (show If _ _ _; first | refine if_t ?_ | refine if_f ?_) | (show Rng _ _; first | refine rng1 ?_ ?_ | refine rng2 ?_ ?_))
  refine sights_ok hT6 ⟨by omega⟩ (fun hp hK hs => ?_)
  rw [eT] at hs
  have hd := hK _ _ hd6
  have hT := hK _ _ hT6
  have hU := hK _ _ hU6
  have hW := hK _ _ hW6
  have hk := hK _ _ hK5
  clear hd6 hT6 hU6 hW6 hK5 hK
  repeat' (first | (first | (show E _ _ _ _ _ _; first | refine e_name (by walk_at "nm") ?_ | refine e_int ?_ | refine e_bin ?_ | refine e_sub rfl ?_ | refine e_cmp rfl ?_ | refine e_callF (by (with_reducible assumption)) (by walk_at "gl") (by kernel_rfl) (by kernel_rfl) rfl ?_ | refine e_callB (by (with_reducible assumption)) (by walk_at "gl") (by kernel_rfl) rfl ?_ | refine e_callT (by (with_reducible assumption)) (by walk_at "gl") (by kernel_rfl) rfl ?_ | refine e_glob (by (with_reducible assumption)) (by kernel_rfl) (by walk_at "gl") ?_ | refine e_tuple ?_ | refine e_boolop ?_ | refine e_list ?_ | refine e_none ?_ | refine e_append rfl rfl rfl ?_ | refine e_comp (by (with_reducible assumption)) (by kernel_rfl) rfl ?_) | (show Sz _ _; refine sz rfl ?_) | (show Lst _ _ _; refine lst_ref (by walk_at "hp") ?_) | (show Es _ _ _ _ _ _; first | refine es_cons rfl ?_ | refine es_nil ?_) | (show Ss _ _ _ _ _ _; first | refine ss_asg ?_ | refine ss_expr ?_ | refine ss_ret ?_ | refine ss_nil ?_) | (show S _ _ _ _ _ _; first | refine s_comp (by (with_reducible assumption)) (by kernel_rfl) (by kernel_rfl) rfl ?_ | refine s_asg (by (with_reducible assumption)) rfl (by kernel_rfl) ?_ | refine s_ret ?_ | refine s_expr rfl ?_) | (show Bin _ _ _ _ _ _ _ _; first | refine bin_add ?_ | refine bin_sub ?_ | refine bin_mul ?_ ?_ | refine bin_mod ?_ ?_ | refine bin_div ?_ ?_ | refine bin_pow18 ?_ | refine bin_pow14 ?_) | (show Cmp _ _ _ _ _ _ _ _; first | refine cmp_lt ?_ | refine cmp_gt ?_ | refine cmp_eq ?_ | refine cmp_is_nn ?_ | refine cmp_is_vn rfl ?_) | (show Tru _ _ _ _ _ _; refine tru_bool ?_) | (show B _ _ _ _ _ _; first | refine b_cmp rfl ?_ | refine b_boolop ?_ | refine b_plain rfl ?_) | (show BL _ _ _ _ _ _ _; first | refine bl_or ?_ | refine bl_or_nil ?_) | (show EL _ _ _ _ _ _ _; first | refine el_one ?_ | refine el_and ?_) | (show Sub _ _ _ _ _ _ _; first | refine sb_tup ⟨by decide⟩ (by rfl) ?_ | refine sb_int (by walk_at "hp") ?_ ?_ | refine sb_scr (by (with_reducible assumption)) ?_ (by with_reducible assumption) ?_) | (show CB _ _ _ _ _ _ _; first | refine isi_rl (by walk_at "hp") ?_ | refine cb_len_scr (by (with_reducible assumption)) ?_ | refine cb_len_int (by walk_at "hp") ?_ ?_ | refine cb_append (by walk_at "hp") ?_ ?_) | (show CT _ _ _ _ _ _ _; refine ct_list_ref (by walk_at "hp") ?_ ?_) | (show If _ _ _; first | refine if_t ?_ | refine if_f ?_) | (show Rng _ _; first | refine rng1 ?_ ?_ | refine rng2 ?_ ?_)) | refine cmp_pairs_ne hs hd ?_)
  rw [show decide (sg (g xs) xs.length = sg (g xs) xs.length) = true by simp]
  repeat' (first | (first | (show E _ _ _ _ _ _; first | refine e_name (by walk_at "nm") ?_ | refine e_int ?_ | refine e_bin ?_ | refine e_sub rfl ?_ | refine e_cmp rfl ?_ | refine e_callF (by (with_reducible assumption)) (by walk_at "gl") (by kernel_rfl) (by kernel_rfl) rfl ?_ | refine e_callB (by (with_reducible assumption)) (by walk_at "gl") (by kernel_rfl) rfl ?_ | refine e_callT (by (with_reducible assumption)) (by walk_at "gl") (by kernel_rfl) rfl ?_ | refine e_glob (by (with_reducible assumption)) (by kernel_rfl) (by walk_at "gl") ?_ | refine e_tuple ?_ | refine e_boolop ?_ | refine e_list ?_ | refine e_none ?_ | refine e_append rfl rfl rfl ?_ | refine e_comp (by (with_reducible assumption)) (by kernel_rfl) rfl ?_) | (show Sz _ _; refine sz rfl ?_) | (show Lst _ _ _; refine lst_ref (by walk_at "hp") ?_) | (show Es _ _ _ _ _ _; first | refine es_cons rfl ?_ | refine es_nil ?_) | (show Ss _ _ _ _ _ _; first | refine ss_asg ?_ | refine ss_expr ?_ | refine ss_ret ?_ | refine ss_nil ?_) | (show S _ _ _ _ _ _; first | refine s_comp (by (with_reducible assumption)) (by kernel_rfl) (by kernel_rfl) rfl ?_ | refine s_asg (by (with_reducible assumption)) rfl (by kernel_rfl) ?_ | refine s_ret ?_ | refine s_expr rfl ?_) | (show Bin _ _ _ _ _ _ _ _; first | refine bin_add ?_ | refine bin_sub ?_ | refine bin_mul ?_ ?_ | refine bin_mod ?_ ?_ | refine bin_div ?_ ?_ | refine bin_pow18 ?_ | refine bin_pow14 ?_) | (show Cmp _ _ _ _ _ _ _ _; first | refine cmp_lt ?_ | refine cmp_gt ?_ | refine cmp_eq ?_ | refine cmp_is_nn ?_ | refine cmp_is_vn rfl ?_) | (show Tru _ _ _ _ _ _; refine tru_bool ?_) | (show B _ _ _ _ _ _; first | refine b_cmp rfl ?_ | refine b_boolop ?_ | refine b_plain rfl ?_) | (show BL _ _ _ _ _ _ _; first | refine bl_or ?_ | refine bl_or_nil ?_) | (show EL _ _ _ _ _ _ _; first | refine el_one ?_ | refine el_and ?_) | (show Sub _ _ _ _ _ _ _; first | refine sb_tup ⟨by decide⟩ (by rfl) ?_ | refine sb_int (by walk_at "hp") ?_ ?_ | refine sb_scr (by (with_reducible assumption)) ?_ (by with_reducible assumption) ?_) | (show CB _ _ _ _ _ _ _; first | refine isi_rl (by walk_at "hp") ?_ | refine cb_len_scr (by (with_reducible assumption)) ?_ | refine cb_len_int (by walk_at "hp") ?_ ?_ | refine cb_append (by walk_at "hp") ?_ ?_) | (show CT _ _ _ _ _ _ _; refine ct_list_ref (by walk_at "hp") ?_ ?_) | (show If _ _ _; first | refine if_t ?_ | refine if_f ?_) | (show Rng _ _; first | refine rng1 ?_ ?_ | refine rng2 ?_ ?_)) | refine cmp_ints_ne hT hk ?_)
  rw [show decide (ts = ts) = true by simp]
  repeat' (first | (show E _ _ _ _ _ _; first | refine e_name (by walk_at "nm") ?_ | refine e_int ?_ | refine e_bin ?_ | refine e_sub rfl ?_ | refine e_cmp rfl ?_ | refine e_callF (by (with_reducible assumption)) (by walk_at "gl") (by kernel_rfl) (by kernel_rfl) rfl ?_ | refine e_callB (by (with_reducible assumption)) (by walk_at "gl") (by kernel_rfl) rfl ?_ | refine e_callT (by (with_reducible assumption)) (by walk_at "gl") (by kernel_rfl) rfl ?_ | refine e_glob (by (with_reducible assumption)) (by kernel_rfl) (by walk_at "gl") ?_ | refine e_tuple ?_ | refine e_boolop ?_ | refine e_list ?_ | refine e_none ?_ | refine e_append rfl rfl rfl ?_ | refine e_comp (by (with_reducible assumption)) (by kernel_rfl) rfl ?_) | (show Sz _ _; refine sz rfl ?_) | (show Lst _ _ _; refine lst_ref (by walk_at "hp") ?_) | (show Es _ _ _ _ _ _; first | refine es_cons rfl ?_ | refine es_nil ?_) | (show Ss _ _ _ _ _ _; first | refine ss_asg ?_ | refine ss_expr ?_ | refine ss_ret ?_ | refine ss_nil ?_) | (show S _ _ _ _ _ _; first | refine s_comp (by (with_reducible assumption)) (by kernel_rfl) (by kernel_rfl) rfl ?_ | refine s_asg (by (with_reducible assumption)) rfl (by kernel_rfl) ?_ | refine s_ret ?_ | refine s_expr rfl ?_) | (show Bin _ _ _ _ _ _ _ _; first | refine bin_add ?_ | refine bin_sub ?_ | refine bin_mul ?_ ?_ | refine bin_mod ?_ ?_ | refine bin_div ?_ ?_ | refine bin_pow18 ?_ | refine bin_pow14 ?_) | (show Cmp _ _ _ _ _ _ _ _; first | refine cmp_lt ?_ | refine cmp_gt ?_ | refine cmp_eq ?_ | refine cmp_is_nn ?_ | refine cmp_is_vn rfl ?_) | (show Tru _ _ _ _ _ _; refine tru_bool ?_) | (show B _ _ _ _ _ _; first | refine b_cmp rfl ?_ | refine b_boolop ?_ | refine b_plain rfl ?_) | (show BL _ _ _ _ _ _ _; first | refine bl_or ?_ | refine bl_or_nil ?_) | (show EL _ _ _ _ _ _ _; first | refine el_one ?_ | refine el_and ?_) | (show Sub _ _ _ _ _ _ _; first | refine sb_tup ⟨by decide⟩ (by rfl) ?_ | refine sb_int (by walk_at "hp") ?_ ?_ | refine sb_scr (by (with_reducible assumption)) ?_ (by with_reducible assumption) ?_) | (show CB _ _ _ _ _ _ _; first | refine isi_rl (by walk_at "hp") ?_ | refine cb_len_scr (by (with_reducible assumption)) ?_ | refine cb_len_int (by walk_at "hp") ?_ ?_ | refine cb_append (by walk_at "hp") ?_ ?_) | (show CT _ _ _ _ _ _ _; refine ct_list_ref (by walk_at "hp") ?_ ?_) | (show If _ _ _; first | refine if_t ?_ | refine if_f ?_) | (show Rng _ _; first | refine rng1 ?_ ?_ | refine rng2 ?_ ?_))
  clear hs
  refine sights_ok hW ⟨by omega⟩ (fun hp₂ hK hs => ?_)
  rw [eW] at hs
  have hd' := hK _ _ hd
  have hU' := hK _ _ hU
  repeat' (first | (first | (show E _ _ _ _ _ _; first | refine e_name (by walk_at "nm") ?_ | refine e_int ?_ | refine e_bin ?_ | refine e_sub rfl ?_ | refine e_cmp rfl ?_ | refine e_callF (by (with_reducible assumption)) (by walk_at "gl") (by kernel_rfl) (by kernel_rfl) rfl ?_ | refine e_callB (by (with_reducible assumption)) (by walk_at "gl") (by kernel_rfl) rfl ?_ | refine e_callT (by (with_reducible assumption)) (by walk_at "gl") (by kernel_rfl) rfl ?_ | refine e_glob (by (with_reducible assumption)) (by kernel_rfl) (by walk_at "gl") ?_ | refine e_tuple ?_ | refine e_boolop ?_ | refine e_list ?_ | refine e_none ?_ | refine e_append rfl rfl rfl ?_ | refine e_comp (by (with_reducible assumption)) (by kernel_rfl) rfl ?_) | (show Sz _ _; refine sz rfl ?_) | (show Lst _ _ _; refine lst_ref (by walk_at "hp") ?_) | (show Es _ _ _ _ _ _; first | refine es_cons rfl ?_ | refine es_nil ?_) | (show Ss _ _ _ _ _ _; first | refine ss_asg ?_ | refine ss_expr ?_ | refine ss_ret ?_ | refine ss_nil ?_) | (show S _ _ _ _ _ _; first | refine s_comp (by (with_reducible assumption)) (by kernel_rfl) (by kernel_rfl) rfl ?_ | refine s_asg (by (with_reducible assumption)) rfl (by kernel_rfl) ?_ | refine s_ret ?_ | refine s_expr rfl ?_) | (show Bin _ _ _ _ _ _ _ _; first | refine bin_add ?_ | refine bin_sub ?_ | refine bin_mul ?_ ?_ | refine bin_mod ?_ ?_ | refine bin_div ?_ ?_ | refine bin_pow18 ?_ | refine bin_pow14 ?_) | (show Cmp _ _ _ _ _ _ _ _; first | refine cmp_lt ?_ | refine cmp_gt ?_ | refine cmp_eq ?_ | refine cmp_is_nn ?_ | refine cmp_is_vn rfl ?_) | (show Tru _ _ _ _ _ _; refine tru_bool ?_) | (show B _ _ _ _ _ _; first | refine b_cmp rfl ?_ | refine b_boolop ?_ | refine b_plain rfl ?_) | (show BL _ _ _ _ _ _ _; first | refine bl_or ?_ | refine bl_or_nil ?_) | (show EL _ _ _ _ _ _ _; first | refine el_one ?_ | refine el_and ?_) | (show Sub _ _ _ _ _ _ _; first | refine sb_tup ⟨by decide⟩ (by rfl) ?_ | refine sb_int (by walk_at "hp") ?_ ?_ | refine sb_scr (by (with_reducible assumption)) ?_ (by with_reducible assumption) ?_) | (show CB _ _ _ _ _ _ _; first | refine isi_rl (by walk_at "hp") ?_ | refine cb_len_scr (by (with_reducible assumption)) ?_ | refine cb_len_int (by walk_at "hp") ?_ ?_ | refine cb_append (by walk_at "hp") ?_ ?_) | (show CT _ _ _ _ _ _ _; refine ct_list_ref (by walk_at "hp") ?_ ?_) | (show If _ _ _; first | refine if_t ?_ | refine if_f ?_) | (show Rng _ _; first | refine rng1 ?_ ?_ | refine rng2 ?_ ?_)) | refine cmp_pairs_ne hs hd' ?_)
  rw [show decide (sg (g xs) xs.length = sg (g xs) xs.length) = true by simp]
  repeat' (first | (show E _ _ _ _ _ _; first | refine e_name (by walk_at "nm") ?_ | refine e_int ?_ | refine e_bin ?_ | refine e_sub rfl ?_ | refine e_cmp rfl ?_ | refine e_callF (by (with_reducible assumption)) (by walk_at "gl") (by kernel_rfl) (by kernel_rfl) rfl ?_ | refine e_callB (by (with_reducible assumption)) (by walk_at "gl") (by kernel_rfl) rfl ?_ | refine e_callT (by (with_reducible assumption)) (by walk_at "gl") (by kernel_rfl) rfl ?_ | refine e_glob (by (with_reducible assumption)) (by kernel_rfl) (by walk_at "gl") ?_ | refine e_tuple ?_ | refine e_boolop ?_ | refine e_list ?_ | refine e_none ?_ | refine e_append rfl rfl rfl ?_ | refine e_comp (by (with_reducible assumption)) (by kernel_rfl) rfl ?_) | (show Sz _ _; refine sz rfl ?_) | (show Lst _ _ _; refine lst_ref (by walk_at "hp") ?_) | (show Es _ _ _ _ _ _; first | refine es_cons rfl ?_ | refine es_nil ?_) | (show Ss _ _ _ _ _ _; first | refine ss_asg ?_ | refine ss_expr ?_ | refine ss_ret ?_ | refine ss_nil ?_) | (show S _ _ _ _ _ _; first | refine s_comp (by (with_reducible assumption)) (by kernel_rfl) (by kernel_rfl) rfl ?_ | refine s_asg (by (with_reducible assumption)) rfl (by kernel_rfl) ?_ | refine s_ret ?_ | refine s_expr rfl ?_) | (show Bin _ _ _ _ _ _ _ _; first | refine bin_add ?_ | refine bin_sub ?_ | refine bin_mul ?_ ?_ | refine bin_mod ?_ ?_ | refine bin_div ?_ ?_ | refine bin_pow18 ?_ | refine bin_pow14 ?_) | (show Cmp _ _ _ _ _ _ _ _; first | refine cmp_lt ?_ | refine cmp_gt ?_ | refine cmp_eq ?_ | refine cmp_is_nn ?_ | refine cmp_is_vn rfl ?_) | (show Tru _ _ _ _ _ _; refine tru_bool ?_) | (show B _ _ _ _ _ _; first | refine b_cmp rfl ?_ | refine b_boolop ?_ | refine b_plain rfl ?_) | (show BL _ _ _ _ _ _ _; first | refine bl_or ?_ | refine bl_or_nil ?_) | (show EL _ _ _ _ _ _ _; first | refine el_one ?_ | refine el_and ?_) | (show Sub _ _ _ _ _ _ _; first | refine sb_tup ⟨by decide⟩ (by rfl) ?_ | refine sb_int (by walk_at "hp") ?_ ?_ | refine sb_scr (by (with_reducible assumption)) ?_ (by with_reducible assumption) ?_) | (show CB _ _ _ _ _ _ _; first | refine isi_rl (by walk_at "hp") ?_ | refine cb_len_scr (by (with_reducible assumption)) ?_ | refine cb_len_int (by walk_at "hp") ?_ ?_ | refine cb_append (by walk_at "hp") ?_ ?_) | (show CT _ _ _ _ _ _ _; refine ct_list_ref (by walk_at "hp") ?_ ?_) | (show If _ _ _; first | refine if_t ?_ | refine if_f ?_) | (show Rng _ _; first | refine rng1 ?_ ?_ | refine rng2 ?_ ?_))
  clear hs hK hd hU hT hW hk hp
  refine sights_ok hU' ⟨by omega⟩ (fun hp hK hs => ?_)
  have hd := hK _ _ hd'
  rw [show us.length = xs.length by omega] at hs
  repeat' (first | (show E _ _ _ _ _ _; first | refine e_name (by walk_at "nm") ?_ | refine e_int ?_ | refine e_bin ?_ | refine e_sub rfl ?_ | refine e_cmp rfl ?_ | refine e_callF (by (with_reducible assumption)) (by walk_at "gl") (by kernel_rfl) (by kernel_rfl) rfl ?_ | refine e_callB (by (with_reducible assumption)) (by walk_at "gl") (by kernel_rfl) rfl ?_ | refine e_callT (by (with_reducible assumption)) (by walk_at "gl") (by kernel_rfl) rfl ?_ | refine e_glob (by (with_reducible assumption)) (by kernel_rfl) (by walk_at "gl") ?_ | refine e_tuple ?_ | refine e_boolop ?_ | refine e_list ?_ | refine e_none ?_ | refine e_append rfl rfl rfl ?_ | refine e_comp (by (with_reducible assumption)) (by kernel_rfl) rfl ?_) | (show Sz _ _; refine sz rfl ?_) | (show Lst _ _ _; refine lst_ref (by walk_at "hp") ?_) | (show Es _ _ _ _ _ _; first | refine es_cons rfl ?_ | refine es_nil ?_) | (show Ss _ _ _ _ _ _; first | refine ss_asg ?_ | refine ss_expr ?_ | refine ss_ret ?_ | refine ss_nil ?_) | (show S _ _ _ _ _ _; first | refine s_comp (by (with_reducible assumption)) (by kernel_rfl) (by kernel_rfl) rfl ?_ | refine s_asg (by (with_reducible assumption)) rfl (by kernel_rfl) ?_ | refine s_ret ?_ | refine s_expr rfl ?_) | (show Bin _ _ _ _ _ _ _ _; first | refine bin_add ?_ | refine bin_sub ?_ | refine bin_mul ?_ ?_ | refine bin_mod ?_ ?_ | refine bin_div ?_ ?_ | refine bin_pow18 ?_ | refine bin_pow14 ?_) | (show Cmp _ _ _ _ _ _ _ _; first | refine cmp_lt ?_ | refine cmp_gt ?_ | refine cmp_eq ?_ | refine cmp_is_nn ?_ | refine cmp_is_vn rfl ?_) | (show Tru _ _ _ _ _ _; refine tru_bool ?_) | (show B _ _ _ _ _ _; first | refine b_cmp rfl ?_ | refine b_boolop ?_ | refine b_plain rfl ?_) | (show BL _ _ _ _ _ _ _; first | refine bl_or ?_ | refine bl_or_nil ?_) | (show EL _ _ _ _ _ _ _; first | refine el_one ?_ | refine el_and ?_) | (show Sub _ _ _ _ _ _ _; first | refine sb_tup ⟨by decide⟩ (by rfl) ?_ | refine sb_int (by walk_at "hp") ?_ ?_ | refine sb_scr (by (with_reducible assumption)) ?_ (by with_reducible assumption) ?_) | (show CB _ _ _ _ _ _ _; first | refine isi_rl (by walk_at "hp") ?_ | refine cb_len_scr (by (with_reducible assumption)) ?_ | refine cb_len_int (by walk_at "hp") ?_ ?_ | refine cb_append (by walk_at "hp") ?_ ?_) | (show CT _ _ _ _ _ _ _; refine ct_list_ref (by walk_at "hp") ?_ ?_) | (show If _ _ _; first | refine if_t ?_ | refine if_f ?_) | (show Rng _ _; first | refine rng1 ?_ ?_ | refine rng2 ?_ ?_))
  refine i_val ?_
  repeat' (first | (show E _ _ _ _ _ _; first | refine e_name (by walk_at "nm") ?_ | refine e_int ?_ | refine e_bin ?_ | refine e_sub rfl ?_ | refine e_cmp rfl ?_ | refine e_callF (by (with_reducible assumption)) (by walk_at "gl") (by kernel_rfl) (by kernel_rfl) rfl ?_ | refine e_callB (by (with_reducible assumption)) (by walk_at "gl") (by kernel_rfl) rfl ?_ | refine e_callT (by (with_reducible assumption)) (by walk_at "gl") (by kernel_rfl) rfl ?_ | refine e_glob (by (with_reducible assumption)) (by kernel_rfl) (by walk_at "gl") ?_ | refine e_tuple ?_ | refine e_boolop ?_ | refine e_list ?_ | refine e_none ?_ | refine e_append rfl rfl rfl ?_ | refine e_comp (by (with_reducible assumption)) (by kernel_rfl) rfl ?_) | (show Sz _ _; refine sz rfl ?_) | (show Lst _ _ _; refine lst_ref (by walk_at "hp") ?_) | (show Es _ _ _ _ _ _; first | refine es_cons rfl ?_ | refine es_nil ?_) | (show Ss _ _ _ _ _ _; first | refine ss_asg ?_ | refine ss_expr ?_ | refine ss_ret ?_ | refine ss_nil ?_) | (show S _ _ _ _ _ _; first | refine s_comp (by (with_reducible assumption)) (by kernel_rfl) (by kernel_rfl) rfl ?_ | refine s_asg (by (with_reducible assumption)) rfl (by kernel_rfl) ?_ | refine s_ret ?_ | refine s_expr rfl ?_) | (show Bin _ _ _ _ _ _ _ _; first | refine bin_add ?_ | refine bin_sub ?_ | refine bin_mul ?_ ?_ | refine bin_mod ?_ ?_ | refine bin_div ?_ ?_ | refine bin_pow18 ?_ | refine bin_pow14 ?_) | (show Cmp _ _ _ _ _ _ _ _; first | refine cmp_lt ?_ | refine cmp_gt ?_ | refine cmp_eq ?_ | refine cmp_is_nn ?_ | refine cmp_is_vn rfl ?_) | (show Tru _ _ _ _ _ _; refine tru_bool ?_) | (show B _ _ _ _ _ _; first | refine b_cmp rfl ?_ | refine b_boolop ?_ | refine b_plain rfl ?_) | (show BL _ _ _ _ _ _ _; first | refine bl_or ?_ | refine bl_or_nil ?_) | (show EL _ _ _ _ _ _ _; first | refine el_one ?_ | refine el_and ?_) | (show Sub _ _ _ _ _ _ _; first | refine sb_tup ⟨by decide⟩ (by rfl) ?_ | refine sb_int (by walk_at "hp") ?_ ?_ | refine sb_scr (by (with_reducible assumption)) ?_ (by with_reducible assumption) ?_) | (show CB _ _ _ _ _ _ _; first | refine isi_rl (by walk_at "hp") ?_ | refine cb_len_scr (by (with_reducible assumption)) ?_ | refine cb_len_int (by walk_at "hp") ?_ ?_ | refine cb_append (by walk_at "hp") ?_ ?_) | (show CT _ _ _ _ _ _ _; refine ct_list_ref (by walk_at "hp") ?_ ?_) | (show If _ _ _; first | refine if_t ?_ | refine if_f ?_) | (show Rng _ _; first | refine rng1 ?_ ?_ | refine rng2 ?_ ?_))
  refine srv_ref (by (with_reducible assumption)) hd ?_
  refine comp_pairs (by (with_reducible assumption)) (by kernel_rfl) (fun k x => ∀ hk : k < (sg (g xs) xs.length).length, x = turnP xs.length (sg (g xs) xs.length)[k]) (by rw [List.length_map, sizeLine_eq]; omega) (fun vs => app_get hd) ?_ ?_
  · intro k hk vs hv
    rw [List.length_map] at hk
    refine ⟨_, by rw [List.getElem_map]; exact tgt2, fun c' hc' => ?_⟩
    repeat' (first | (show E _ _ _ _ _ _; first | refine e_name (by walk_at "nm") ?_ | refine e_int ?_ | refine e_bin ?_ | refine e_sub rfl ?_ | refine e_cmp rfl ?_ | refine e_callF (by (with_reducible assumption)) (by walk_at "gl") (by kernel_rfl) (by kernel_rfl) rfl ?_ | refine e_callB (by (with_reducible assumption)) (by walk_at "gl") (by kernel_rfl) rfl ?_ | refine e_callT (by (with_reducible assumption)) (by walk_at "gl") (by kernel_rfl) rfl ?_ | refine e_glob (by (with_reducible assumption)) (by kernel_rfl) (by walk_at "gl") ?_ | refine e_tuple ?_ | refine e_boolop ?_ | refine e_list ?_ | refine e_none ?_ | refine e_append rfl rfl rfl ?_ | refine e_comp (by (with_reducible assumption)) (by kernel_rfl) rfl ?_) | (show Sz _ _; refine sz rfl ?_) | (show Lst _ _ _; refine lst_ref (by walk_at "hp") ?_) | (show Es _ _ _ _ _ _; first | refine es_cons rfl ?_ | refine es_nil ?_) | (show Ss _ _ _ _ _ _; first | refine ss_asg ?_ | refine ss_expr ?_ | refine ss_ret ?_ | refine ss_nil ?_) | (show S _ _ _ _ _ _; first | refine s_comp (by (with_reducible assumption)) (by kernel_rfl) (by kernel_rfl) rfl ?_ | refine s_asg (by (with_reducible assumption)) rfl (by kernel_rfl) ?_ | refine s_ret ?_ | refine s_expr rfl ?_) | (show Bin _ _ _ _ _ _ _ _; first | refine bin_add ?_ | refine bin_sub ?_ | refine bin_mul ?_ ?_ | refine bin_mod ?_ ?_ | refine bin_div ?_ ?_ | refine bin_pow18 ?_ | refine bin_pow14 ?_) | (show Cmp _ _ _ _ _ _ _ _; first | refine cmp_lt ?_ | refine cmp_gt ?_ | refine cmp_eq ?_ | refine cmp_is_nn ?_ | refine cmp_is_vn rfl ?_) | (show Tru _ _ _ _ _ _; refine tru_bool ?_) | (show B _ _ _ _ _ _; first | refine b_cmp rfl ?_ | refine b_boolop ?_ | refine b_plain rfl ?_) | (show BL _ _ _ _ _ _ _; first | refine bl_or ?_ | refine bl_or_nil ?_) | (show EL _ _ _ _ _ _ _; first | refine el_one ?_ | refine el_and ?_) | (show Sub _ _ _ _ _ _ _; first | refine sb_tup ⟨by decide⟩ (by rfl) ?_ | refine sb_int (by walk_at "hp") ?_ ?_ | refine sb_scr (by (with_reducible assumption)) ?_ (by with_reducible assumption) ?_) | (show CB _ _ _ _ _ _ _; first | refine isi_rl (by walk_at "hp") ?_ | refine cb_len_scr (by (with_reducible assumption)) ?_ | refine cb_len_int (by walk_at "hp") ?_ ?_ | refine cb_append (by walk_at "hp") ?_ ?_) | (show CT _ _ _ _ _ _ _; refine ct_list_ref (by walk_at "hp") ?_ ?_) | (show If _ _ _; first | refine if_t ?_ | refine if_f ?_) | (show Rng _ _; first | refine rng1 ?_ ?_ | refine rng2 ?_ ?_))
    exact ⟨rfl, turnP xs.length (sg (g xs) xs.length)[k], rfl, fun _ => rfl⟩
  intro qs q1 qR
  rw [List.length_map] at q1
  have eq : qs = (sg (g xs) xs.length).map (turnP xs.length) := by
    refine List.ext_getElem (by simp [q1]) fun j h1 h2 => ?_
    rw [qR j h1 (by omega)]
    simp
  subst eq
  repeat' (first | (show E _ _ _ _ _ _; first | refine e_name (by walk_at "nm") ?_ | refine e_int ?_ | refine e_bin ?_ | refine e_sub rfl ?_ | refine e_cmp rfl ?_ | refine e_callF (by (with_reducible assumption)) (by walk_at "gl") (by kernel_rfl) (by kernel_rfl) rfl ?_ | refine e_callB (by (with_reducible assumption)) (by walk_at "gl") (by kernel_rfl) rfl ?_ | refine e_callT (by (with_reducible assumption)) (by walk_at "gl") (by kernel_rfl) rfl ?_ | refine e_glob (by (with_reducible assumption)) (by kernel_rfl) (by walk_at "gl") ?_ | refine e_tuple ?_ | refine e_boolop ?_ | refine e_list ?_ | refine e_none ?_ | refine e_append rfl rfl rfl ?_ | refine e_comp (by (with_reducible assumption)) (by kernel_rfl) rfl ?_) | (show Sz _ _; refine sz rfl ?_) | (show Lst _ _ _; refine lst_ref (by walk_at "hp") ?_) | (show Es _ _ _ _ _ _; first | refine es_cons rfl ?_ | refine es_nil ?_) | (show Ss _ _ _ _ _ _; first | refine ss_asg ?_ | refine ss_expr ?_ | refine ss_ret ?_ | refine ss_nil ?_) | (show S _ _ _ _ _ _; first | refine s_comp (by (with_reducible assumption)) (by kernel_rfl) (by kernel_rfl) rfl ?_ | refine s_asg (by (with_reducible assumption)) rfl (by kernel_rfl) ?_ | refine s_ret ?_ | refine s_expr rfl ?_) | (show Bin _ _ _ _ _ _ _ _; first | refine bin_add ?_ | refine bin_sub ?_ | refine bin_mul ?_ ?_ | refine bin_mod ?_ ?_ | refine bin_div ?_ ?_ | refine bin_pow18 ?_ | refine bin_pow14 ?_) | (show Cmp _ _ _ _ _ _ _ _; first | refine cmp_lt ?_ | refine cmp_gt ?_ | refine cmp_eq ?_ | refine cmp_is_nn ?_ | refine cmp_is_vn rfl ?_) | (show Tru _ _ _ _ _ _; refine tru_bool ?_) | (show B _ _ _ _ _ _; first | refine b_cmp rfl ?_ | refine b_boolop ?_ | refine b_plain rfl ?_) | (show BL _ _ _ _ _ _ _; first | refine bl_or ?_ | refine bl_or_nil ?_) | (show EL _ _ _ _ _ _ _; first | refine el_one ?_ | refine el_and ?_) | (show Sub _ _ _ _ _ _ _; first | refine sb_tup ⟨by decide⟩ (by rfl) ?_ | refine sb_int (by walk_at "hp") ?_ ?_ | refine sb_scr (by (with_reducible assumption)) ?_ (by with_reducible assumption) ?_) | (show CB _ _ _ _ _ _ _; first | refine isi_rl (by walk_at "hp") ?_ | refine cb_len_scr (by (with_reducible assumption)) ?_ | refine cb_len_int (by walk_at "hp") ?_ ?_ | refine cb_append (by walk_at "hp") ?_ ?_) | (show CT _ _ _ _ _ _ _; refine ct_list_ref (by walk_at "hp") ?_ ?_) | (show If _ _ _; first | refine if_t ?_ | refine if_f ?_) | (show Rng _ _; first | refine rng1 ?_ ?_ | refine rng2 ?_ ?_))
  refine cb_sorted app_new (fun p hp => ?_) ?_ ⟨by omega⟩ (fun rs r1 r2 => ?_)
  · obtain ⟨q, hq, rfl⟩ := List.mem_map.mp hp
    have := (mem_sg.mp hq).1
    unfold turnP
    dsimp only
    omega
  · unfold List.Nodup
    rw [List.pairwise_map]
    refine (sg_nodup (g xs) xs.length).imp fun {p q} ne e => ne ?_
    unfold turnP at e
    have e1 := congrArg Prod.fst e
    have e2 := congrArg Prod.snd e
    dsimp only at e1 e2
    exact Prod.ext (by omega) (by omega)
  have er : sg (g us) xs.length = rs := sorted_turn eU r1 r2
  repeat' (first | (first | (show E _ _ _ _ _ _; first | refine e_name (by walk_at "nm") ?_ | refine e_int ?_ | refine e_bin ?_ | refine e_sub rfl ?_ | refine e_cmp rfl ?_ | refine e_callF (by (with_reducible assumption)) (by walk_at "gl") (by kernel_rfl) (by kernel_rfl) rfl ?_ | refine e_callB (by (with_reducible assumption)) (by walk_at "gl") (by kernel_rfl) rfl ?_ | refine e_callT (by (with_reducible assumption)) (by walk_at "gl") (by kernel_rfl) rfl ?_ | refine e_glob (by (with_reducible assumption)) (by kernel_rfl) (by walk_at "gl") ?_ | refine e_tuple ?_ | refine e_boolop ?_ | refine e_list ?_ | refine e_none ?_ | refine e_append rfl rfl rfl ?_ | refine e_comp (by (with_reducible assumption)) (by kernel_rfl) rfl ?_) | (show Sz _ _; refine sz rfl ?_) | (show Lst _ _ _; refine lst_ref (by walk_at "hp") ?_) | (show Es _ _ _ _ _ _; first | refine es_cons rfl ?_ | refine es_nil ?_) | (show Ss _ _ _ _ _ _; first | refine ss_asg ?_ | refine ss_expr ?_ | refine ss_ret ?_ | refine ss_nil ?_) | (show S _ _ _ _ _ _; first | refine s_comp (by (with_reducible assumption)) (by kernel_rfl) (by kernel_rfl) rfl ?_ | refine s_asg (by (with_reducible assumption)) rfl (by kernel_rfl) ?_ | refine s_ret ?_ | refine s_expr rfl ?_) | (show Bin _ _ _ _ _ _ _ _; first | refine bin_add ?_ | refine bin_sub ?_ | refine bin_mul ?_ ?_ | refine bin_mod ?_ ?_ | refine bin_div ?_ ?_ | refine bin_pow18 ?_ | refine bin_pow14 ?_) | (show Cmp _ _ _ _ _ _ _ _; first | refine cmp_lt ?_ | refine cmp_gt ?_ | refine cmp_eq ?_ | refine cmp_is_nn ?_ | refine cmp_is_vn rfl ?_) | (show Tru _ _ _ _ _ _; refine tru_bool ?_) | (show B _ _ _ _ _ _; first | refine b_cmp rfl ?_ | refine b_boolop ?_ | refine b_plain rfl ?_) | (show BL _ _ _ _ _ _ _; first | refine bl_or ?_ | refine bl_or_nil ?_) | (show EL _ _ _ _ _ _ _; first | refine el_one ?_ | refine el_and ?_) | (show Sub _ _ _ _ _ _ _; first | refine sb_tup ⟨by decide⟩ (by rfl) ?_ | refine sb_int (by walk_at "hp") ?_ ?_ | refine sb_scr (by (with_reducible assumption)) ?_ (by with_reducible assumption) ?_) | (show CB _ _ _ _ _ _ _; first | refine isi_rl (by walk_at "hp") ?_ | refine cb_len_scr (by (with_reducible assumption)) ?_ | refine cb_len_int (by walk_at "hp") ?_ ?_ | refine cb_append (by walk_at "hp") ?_ ?_) | (show CT _ _ _ _ _ _ _; refine ct_list_ref (by walk_at "hp") ?_ ?_) | (show If _ _ _; first | refine if_t ?_ | refine if_f ?_) | (show Rng _ _; first | refine rng1 ?_ ?_ | refine rng2 ?_ ?_)) | refine cmp_pairs_eq (app_get (app_get hs)) app_new ?_)
  rw [er]
  rw [show decide (rs = rs) = true by simp]

end
end Mine
open PySem PySem.W PySem.Calls PySem.Spec PyProof.Rows
set_option maxRecDepth 100000 in
set_option maxHeartbeats 8000000 in
theorem PySem.Challenge.cw_uf050038_05_holds : PySem.Challenge.rw_uf050038_05.Holds :=
  Mine.hd05 (by
  intro w s₀ s₁ mg mb G Y fa o pm cd doc dV kV ho hd hcd hD hmg hg args vals as hpre hlay hrd hwl hlo
  have KX := kIn_of Y
  refine Ground.open G ?_
  intro T B D TE TW
  wrow_args hpre hlay hrd hwl hlo
  all_goals first | refine callC_kw (enter_call ?_) | refine enter_call ?_ | refine callC_kw (enter_callW ?_) | refine enter_callW ?_
  refine codeAny_mono ?_ (fun _ _ g => GoodW.toG g)
  refine Mine.law_ok T KX hmg (by assumption) (by assumption) ?_ ?_
  · omega
  · intro s' m' F e1 e2
    refine goodW_bool F (e1.trans hg) (fun _ => rfl) ?_ e2
    wrow_post)
