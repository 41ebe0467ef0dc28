import PyProof.Rows.All
import Wide.All
import OpenK.AllK
import Wide.FinOn
import Lean
import PySem.Challenge.RW_rh0179_01
open PySem PySem.W PySem.Calls PyProof.Rows
set_option Elab.async false
set_option maxRecDepth 100000
set_option maxHeartbeats 8000000
namespace Mine
noncomputable abbrev pw : Program := PySem.Challenge.pw_rh0179_01
noncomputable def view : Program := { pw with main := { pw.main with body := [0, 2, 3, 5, 6, 7, 9, 10, 11, 12, 13, 14, 15, 18, 19, 20, 21, 22, 23, 24, 25, 26, 27, 28, 29].filterMap fun i => pw.main.body[i]? } }
theorem said_ok : OpenLaw.wellSaid PySem.Challenge.rw_rh0179_01 = true := by kernel_rfl
local macro_rules | `(tactic| o_law) => `(tactic| refine holds_law Mine.said_ok fun said => ?_)
noncomputable def topRunQ (p : Program) (w : World) (n₀ : Nat) (ann : Option Value) : Nat → SharedT → Thread → Option SharedT
  | 0, _, _ => none
  | n + 1, s, t => match through t with
    | true => some s
    | false => match PySem.W.Fast.tw6613529449190102663 n₀ ann t with
      | false => none
      | true => match PySem.W.Fast.tw10156331382660048174 (PySem.W.Fast.tw11892475500146522536 treeTable) p w s t with
        | some (s', t') => topRunQ p w n₀ ann n s' t'
        | none => none
theorem topRunQ_of {p : Program} {w : World} {n₀ : Nat} {ann : Option Value} : ∀ (n : Nat) (s : SharedT) (t : Thread) (s' : SharedT), topRunQ p w n₀ ann n s t = some s' → topRun treeTable p w n₀ ann n s.abs t = some s'.abs
  | 0, _, _, _, h => by cases h
  | n + 1, s, t, s', h => by
    unfold topRunQ at h
    unfold topRun
    rw [← PySem.W.Fast.te6613529449190102663, ← PySem.W.Fast.te10156331382660048174, ← PySem.W.Fast.te11892475500146522536] at h
    cases ht : through t with
    | true => rw [ht] at h; cases h; rfl
    | false =>
      rw [ht] at h
      cases hs : stepOk n₀ ann t with
      | false => rw [hs] at h; cases h
      | true =>
        rw [hs] at h
        cases hp : stepT (denote treeTable) p w s t with
        | none => rw [hp] at h; cases h
        | some r =>
          obtain ⟨s₁, t₁⟩ := r
          rw [hp] at h
          rw [stepT_spec hp]
          exact topRunQ_of n s₁ t₁ s' h
theorem bind_T {β : Type} {p : Program} {w : World} {n₀ : Nat} {ann : Option Value} {n : Nat} {t : Thread} {F : Shared → Option β} {r : β} {s₀ : Shared} (s : SharedT) (hs : s₀ = s.abs)
    (h : (topRunQ p w n₀ ann n s t).bind (fun s' => F s'.abs) = some r) : (topRun treeTable p w n₀ ann n s₀ t).bind F = some r := by
  cases hq : topRunQ p w n₀ ann n s t with
  | none => rw [hq] at h; cases h
  | some s' =>
    rw [hq] at h
    rw [hs, topRunQ_of _ _ _ _ hq]
    exact h
/-- a list as a tree of places -/
noncomputable def btOf : Nat → List Obj → Nat → Nat → BT
  | 0, _, _, _ => .nil
  | k + 1, l, a, c => match l[c]? with
    | some o => .node o (btOf k l (2 * a) (a + c)) (btOf k l (2 * a) (2 * a + c))
    | none => .nil
noncomputable def bootT (w : World) (os : OsState) : SharedT := ⟨btOf 12 (boot_heap w.params).objs.toList 1 0, (boot_heap w.params).objs.size, (boot_heap w.params).life, Array.mk [], boot_drawn, boot_toks, os⟩
noncomputable abbrev looseN : List Str := [PySem.Str.ofString "PostError", PySem.Str.ofString "Path", PySem.Str.ofString "path_of", PySem.Str.ofString "path_flattened"]
noncomputable abbrev seeX : Shared → Bool := fun s => xlAt Mine.view [] s && recOk (RowW.records (OpenRow.toRowW (OpenLaw.row PySem.Challenge.rw_rh0179_01))) s
noncomputable abbrev bootS (w : World) (os : OsState) : Shared := ⟨boot_heap w.params, Array.mk [], boot_drawn, boot_toks, os⟩
theorem boot_ns (w : World) (os : OsState) : ((bootS w os).heap.isNs mainGlobals && (bootS w os).gens.size == 0) = true := by kernel_rfl
theorem boot_tree (w : World) (os : OsState) : bootS w os = (bootT w os).abs := by kernel_rfl
theorem seen_ok (w : World) (os : OsState) : (topFrom treeTable pw w 3930 (bootS w os)).map (openSeen view looseN (importedModules pw.main.body) seeX true) = some (openGood view looseN) := by
  unfold topFrom
  rw [boot_ns]
  dsimp only
  rw [Option.map_bind, PySem.W.Fast.te4187177175401517315]
  refine bind_T (bootT w os) (boot_tree w os) ?_
  kernel_rfl
theorem leftO_boot {p q : Program} {loose : List Str} {Xt : Shared → Bool} {α : Type} {Yf : Shared → α} {Ya : World → α} {N : Nat} (e : opening p = plainProg p.main.scope.names) (hN : Nat.ble 600 N = true) (f : ∀ s, fenceModules? p s = some s)
    (h1 : ∀ (w : World) (os : OsState), (topFrom treeTable p w N (bootS w os)).map (openSeen q loose (importedModules p.main.body) Xt true) = some (openGood q loose))
    (h2 : ∀ (w : World) (os : OsState), (topFrom treeTable p w N (bootS w os)).map Yf = some (Ya w)) : LeftO p q loose Xt Yf Ya N := fun w => by
  obtain ⟨s, hs, hv⟩ := Option.map_eq_some_iff.mp (boot_open e hN f w)
  cases s with
  | mk heap gens drawn toks os =>
    cases hv
    unfold openEnds
    rw [hs]
    have k1 := h1 w os
    have k2 := h2 w os
    show (topFrom treeTable p w N (bootS w os)).map _ = _
    cases hx : topFrom treeTable p w N (bootS w os) with
    | none => rw [hx] at k1; cases k1
    | some r =>
      rw [hx] at k1 k2
      exact congrArg some (Prod.ext (Option.some.inj k1) (Option.some.inj k2))
set_option hygiene false in
local macro_rules | `(tactic| o_head $H) => `(tactic| (
  refine PySem.W.holds_open (q := Mine.view) (loose := [PySem.Str.ofString "PostError", PySem.Str.ofString "Path", PySem.Str.ofString "path_of", PySem.Str.ofString "path_flattened"]) (Xt := fun s => xlAt Mine.view [] s && recOk (RowW.records (OpenRow.toRowW (OpenLaw.row PySem.Challenge.rw_rh0179_01))) s) (XP := XL Mine.view []) (Yf := Hook.obs $H) (Ya := Hook.val $H) (YP := Hook.says $H) (N := 3930) ?hl (Hook.of $H) (Hook.keeps $H) (fun s e => xl_of s (Bool.and_eq_true_iff.mp e).1) XL.keeps (by rfl) (by rfl) (by rfl) (fun s e => recFacts_of (Bool.and_eq_true_iff.mp e).2) (by rfl) (by first | assumption | decide +kernel) (by decide +kernel) ⟨rfl, rfl, rfl, rfl, rfl, by decide +kernel⟩ ?hw ?hc
  case hl => exact leftO_boot (by kernel_rfl) (by kernel_rfl) (by intro s; kernel_rfl) Mine.seen_ok (by
    intro w os
    unfold topFrom
    rw [Mine.boot_ns]
    dsimp only
    rw [Option.map_bind]
    refine Mine.bind_T (Mine.bootT w os) (Mine.boot_tree w os) ?_
    kernel_rfl)
  ))
open_top hd for PySem.Challenge.rw_rh0179_01
end Mine
namespace Mine

/-! F1 -/
section


noncomputable abbrev Pg : Program := PySem.Challenge.rw_rh0179_01.row.prog

/-- abstract values: data by value, changing things by address -/
inductive AV where
  | none
  | bool (b : Bool)
  | int (i : Int)
  | str (x : Str)
  | tup (xs : List AV)
  | obj (a : Addr)
  | rng (a b c : Int)
  | val (v : Value)
  | cells (cl : List (Str × Addr)) (cd : Value)

noncomputable abbrev tupO (vs : List Value) (n : Nat) : Obj := { cls := .type "tuple", data := .seq vs.toArray n }
noncomputable abbrev rngO (a b c : Int) (t u v : Tok) : Obj := { cls := .type "range", data := .fields #[.int a t, .int b u, .int c v] }
noncomputable abbrev lstO (vs : List Value) (n : Nat) : Obj := { cls := .type "list", data := .seq vs.toArray n }

mutual
inductive Rep (h : Heap) : Value → AV → Prop
  | none : Rep h Value.none AV.none
  | bool (b : Bool) : Rep h (Value.bool b) (AV.bool b)
  | int (i : Int) (t : Tok) : Rep h (Value.int i t) (AV.int i)
  | str (x : Str) (t : Tok) : Rep h (Value.str x t) (AV.str x)
  | tup {a : Addr} {vs : List Value} {n : Nat} {xs : List AV} : h.get? a = some (tupO vs n) → RepAll h vs xs → Rep h (Value.ref a) (AV.tup xs)
  | obj (a : Addr) : Rep h (Value.ref a) (AV.obj a)
  | rng {r : Addr} {a b c : Int} {t u v : Tok} : h.get? r = some (rngO a b c t u v) → Rep h (Value.ref r) (AV.rng a b c)
  | val (v : Value) : Rep h v (AV.val v)
inductive RepAll (h : Heap) : List Value → List AV → Prop
  | nil : RepAll h [] []
  | cons {v : Value} {vs : List Value} {x : AV} {xs : List AV} : Rep h v x → RepAll h vs xs → RepAll h (v :: vs) (x :: xs)
end

inductive AObj where
  | list (xs : List AV)
  | inst (C dx : Addr)
  | dict (fs : List (Str × AV))
  | raw (o : Obj)

inductive RepD (h : Heap) : List DictEntry → List (Str × AV) → Prop
  | nil : RepD h [] []
  | cons {k : Str} {tk : Tok} {hs : Int} {v : Value} {x : AV} {es : List DictEntry} {fs : List (Str × AV)} : Rep h v x → RepD h es fs → RepD h (⟨hs, .str k tk, v⟩ :: es) ((k, x) :: fs)

inductive Imm : Obj → Prop
  | tup (vs : List Value) (n : Nat) : Imm (tupO vs n)
  | rng (a b c : Int) (t u v : Tok) : Imm (rngO a b c t u v)
noncomputable def RepO (h : Heap) (a : Addr) : AObj → Prop
  | .list xs => ∃ vs n, h.get? a = some (lstO vs n) ∧ RepAll h vs xs
  | .inst C dx => h.get? a = some (instObj C dx)
  | .dict fs => ∃ es n, h.get? a = some (dictOf es n) ∧ RepD h es fs
  | .raw o => h.get? a = some o ∧ ¬ Imm o

noncomputable abbrev St := Addr → Option AObj
noncomputable def upd (st : St) (a : Addr) (o : AObj) : St := fun b => if b = a then some o else st b

theorem upd_self {st : St} {a : Addr} {o : AObj} : upd st a o a = some o := by simp [upd]
theorem upd_ne {st : St} {a b : Addr} {o : AObj} (h : b ≠ a) : upd st a o b = st b := by simp [upd, h]

structure Inv (b : Heap) (st : St) (h : Heap) : Prop where
  rep : ∀ a o, st a = some o → RepO h a o
  base : ∀ a o, b.get? a = some o → h.get? a = some o
  off : ∀ a o, b.get? a = some o → st a = none

/-- what was there and is not tracked stands, and stays untracked -/
noncomputable def Step (st : St) (h : Heap) (st' : St) (h' : Heap) : Prop := ∀ a o, h.get? a = some o → st a = none → h'.get? a = some o ∧ st' a = none

theorem Step.refl {st : St} {h : Heap} : Step st h st h := fun _ _ e f => ⟨e, f⟩
theorem Step.trans {st st₁ st₂ : St} {h h₁ h₂ : Heap} (x : Step st h st₁ h₁) (y : Step st₁ h₁ st₂ h₂) : Step st h st₂ h₂ :=
  fun a o e f => let ⟨e₁, f₁⟩ := x a o e f; y a o e₁ f₁

theorem Imm.cls {o : Obj} (x : Imm o) : o.cls = .type "tuple" ∨ o.cls = .type "range" := by
  cases x
  · exact .inl rfl
  · exact .inr rfl
theorem RepO.notImm {h : Heap} {a : Addr} {x : AObj} {o : Obj} (r : RepO h a x) (m : Imm o) (e : h.get? a = some o) : False := by
  have key : ∀ o', h.get? a = some o' → o'.cls = o.cls := fun o' e' => by rw [e] at e'; cases e'; rfl
  have m₀ := m
  have m := m.cls
  cases x with
  | list xs =>
    obtain ⟨vs', n', e', _⟩ := r
    rw [← key _ e'] at m; simp at m
  | inst C dx =>
    rw [← key _ (show h.get? a = some (instObj C dx) from r)] at m; simp at m
  | dict fs =>
    obtain ⟨es, n', e', _⟩ := r
    rw [← key _ e'] at m; simp at m
  | raw o' =>
    obtain ⟨e', n⟩ := r
    rw [e] at e'; cases e'
    exact n m₀

/-- tuples and ranges stand -/
noncomputable def KeepT (h h' : Heap) : Prop := ∀ a o, Imm o → h.get? a = some o → h'.get? a = some o
theorem KeepT.refl {h : Heap} : KeepT h h := fun _ _ _ e => e
theorem KeepT.trans {h h₁ h₂ : Heap} (x : KeepT h h₁) (y : KeepT h₁ h₂) : KeepT h h₂ := fun a o m e => y a o m (x a o m e)
theorem Step.keepT {b h h' : Heap} {st st' : St} (x : Step st h st' h') (I : Inv b st h) : KeepT h h' := fun a o m e => by
  refine (x a _ e ?_).1
  cases hs : st a with
  | none => rfl
  | some y => exact ((I.rep a y hs).notImm m e).elim

mutual
theorem Rep.keep {h h' : Heap} (k : KeepT h h') : ∀ {v : Value} {x : AV}, Rep h v x → Rep h' v x
  | _, _, .none => .none
  | _, _, .bool b => .bool b
  | _, _, .int i t => .int i t
  | _, _, .str x t => .str x t
  | _, _, .tup e r => .tup (k _ _ (.tup _ _) e) (RepAll.keep k r)
  | _, _, .obj a => .obj a
  | _, _, .rng e => .rng (k _ _ (.rng _ _ _ _ _ _) e)
  | _, _, .val v => .val v
theorem RepAll.keep {h h' : Heap} (k : KeepT h h') : ∀ {vs : List Value} {xs : List AV}, RepAll h vs xs → RepAll h' vs xs
  | _, _, .nil => .nil
  | _, _, .cons x r => .cons (Rep.keep k x) (RepAll.keep k r)
end
theorem RepD.keep {h h' : Heap} (k : KeepT h h') {es : List DictEntry} {fs : List (Str × AV)} (x : RepD h es fs) : RepD h' es fs := by
  induction x with
  | nil => exact .nil
  | cons r _ ih => exact .cons (r.keep k) ih

theorem RepAll.length {h : Heap} {vs : List Value} {xs : List AV} (x : RepAll h vs xs) : vs.length = xs.length := by
  induction vs generalizing xs with
  | nil => cases x; rfl
  | cons v vs ih => cases x with | cons _ r => simp [ih r]
theorem RepAll.append {h : Heap} {vs ws : List Value} {xs ys : List AV} (x : RepAll h vs xs) (y : RepAll h ws ys) : RepAll h (vs ++ ws) (xs ++ ys) := by
  induction vs generalizing xs with
  | nil => cases x; exact y
  | cons v vs ih => cases x with | cons a r => exact .cons a (ih r)
theorem RepAll.get {h : Heap} {vs : List Value} {xs : List AV} (x : RepAll h vs xs) {k : Nat} {y : AV} (hk : xs[k]? = some y) : ∃ v, vs[k]? = some v ∧ Rep h v y := by
  induction vs generalizing xs k with
  | nil => cases x; simp at hk
  | cons v vs ih =>
    cases x with
    | cons a r =>
      cases k with
      | zero => simp at hk; subst hk; exact ⟨v, rfl, a⟩
      | succ k => simpa using ih r (by simpa using hk)
theorem RepAll.take {h : Heap} : ∀ {vs : List Value} {xs : List AV} (n : Nat), RepAll h vs xs → RepAll h (vs.take n) (xs.take n)
  | _, _, 0, _ => by simpa using RepAll.nil
  | _, _, _ + 1, .nil => by simpa using RepAll.nil
  | _, _, n + 1, .cons a r => by simpa using RepAll.cons a (r.take n)
theorem RepAll.drop {h : Heap} : ∀ {vs : List Value} {xs : List AV} (n : Nat), RepAll h vs xs → RepAll h (vs.drop n) (xs.drop n)
  | _, _, 0, x => by simpa using x
  | _, _, _ + 1, .nil => by simpa using RepAll.nil
  | _, _, n + 1, .cons _ r => by simpa using r.drop n
theorem RepAll.reverse {h : Heap} {vs : List Value} {xs : List AV} (x : RepAll h vs xs) : RepAll h vs.reverse xs.reverse := by
  induction vs generalizing xs with
  | nil => cases x; exact .nil
  | cons v vs ih => cases x with | cons a r => simpa using (ih r).append (.cons a .nil)

structure Gd (w : World) (b : Heap) : Prop where
  X : (hd.heap_1 w.params).In b
  g : ∃ mg, b.Ns mainGlobals mg
  bn : ∃ mb, b.Ns builtinsNs mb ∧ ∀ x : Str, x ≠ "__name__" → mb x = bootBuiltins x
  nolimit : b.NoLimit

structure RoomA (lev : Nat) (A : Around) : Prop where
  hh : A.handled = none
  dp : A.depth + lev ≤ 900
  un : A.units + 10 * lev ≤ 9000
theorem RoomA.le {lev lev' : Nat} {A : Around} (x : RoomA lev A) (h : lev' ≤ lev) : RoomA lev' A := ⟨x.hh, by have := x.dp; omega, by have := x.un; omega⟩

structure FId where
  L : Addr
  cl : List (Str × Addr)
  q : Str
  fn : Option Addr
  cd : Value
  frm : Option Addr
@[reducible] noncomputable def FId.env (f : FId) (sc : Scope) : Env := { scope := sc, locals := f.L, globals := mainGlobals, cells := f.cl, qual := f.q, func := f.fn, code := f.cd, frame := f.frm, builtins := builtinsNs }

noncomputable abbrev Ren := Str → Option AV
noncomputable def Ren.set (ρ : Ren) (x : Str) (v : AV) : Ren := fun y => if y = x then some v else ρ y

structure FrOK (f : FId) (sc : Scope) (h : Heap) (ρ : Ren) : Prop where
  fn : sc.kind = .function
  ns : ∃ m, h.Ns f.L m ∧ ∀ x av, ρ x = some av → sc.names.lookup x = some .local → ∃ v, m x = some v ∧ Rep h v av
  cel : ∀ x av, ρ x = some av → (sc.names.lookup x = some .cell ∨ sc.names.lookup x = some .free) → ∃ c v, f.cl.lookup x = some c ∧ h.IsCell c (some v) ∧ Rep h v av
  all : ∀ x, sc.names.lookup x = some .cell → ∃ c, f.cl.lookup x = some c
  alive : ∀ x c, f.cl.lookup x = some c → ∃ v, h.IsCell c v
  apart : ∀ x y c, f.cl.lookup x = some c → f.cl.lookup y = some c → x = y
  clo : ∀ cl cd, ρ "<cl>" = some (.cells cl cd) → f.cl = cl ∧ f.cd = cd

structure Off (b : Heap) (f : FId) (st : St) : Prop where
  L : st f.L = none
  C : ∀ x c, f.cl.lookup x = some c → st c = none
  bL : b.get? f.L = none
  bC : ∀ x c, f.cl.lookup x = some c → b.get? c = none
noncomputable def Own (f : FId) (a : Addr) : Prop := a = f.L ∨ ∃ x, f.cl.lookup x = some a

theorem FrOK.keep {f : FId} {sc : Scope} {h h' : Heap} {ρ : Ren} (F : FrOK f sc h ρ) (k : KeepT h h') (hL : ∀ o, h.get? f.L = some o → h'.get? f.L = some o) (hc : ∀ x c, f.cl.lookup x = some c → ∀ o, h.get? c = some o → h'.get? c = some o) : FrOK f sc h' ρ where
  fn := F.fn
  ns := by
    obtain ⟨m, hn, hm⟩ := F.ns
    refine ⟨m, hn.at' hL, fun x av e l => ?_⟩
    obtain ⟨v, a, b⟩ := hm x av e l
    exact ⟨v, a, b.keep k⟩
  cel := fun x av e l => by
    obtain ⟨c, v, a, ⟨o, ho, hd⟩, d⟩ := F.cel x av e l
    exact ⟨c, v, a, ⟨o, hc x c a o ho, hd⟩, d.keep k⟩
  all := F.all
  alive := fun x c hp => by
    obtain ⟨v, o, ho, hd⟩ := F.alive x c hp
    exact ⟨v, o, hc x c hp o ho, hd⟩
  apart := F.apart
  clo := F.clo

theorem FrOK.step {b : Heap} {f : FId} {sc : Scope} {h h' : Heap} {ρ : Ren} {st st' : St} (F : FrOK f sc h ρ) (I : Inv b st h) (O : Off b f st) (x : Step st h st' h') : FrOK f sc h' ρ :=
  F.keep (x.keepT I) (fun o e => (x _ o e O.L).1) (fun y c hp o e => (x _ o e (O.C y c hp)).1)
theorem FrOK.off {b : Heap} {f : FId} {sc : Scope} {h h' : Heap} {ρ : Ren} {st st' : St} (F : FrOK f sc h ρ) (O : Off b f st) (x : Step st h st' h') : Off b f st' := by
  obtain ⟨m, ⟨o, _, _, ho, _⟩, _⟩ := F.ns
  refine ⟨(x _ o ho O.L).2, fun y c hp => ?_, O.bL, O.bC⟩
  obtain ⟨_, o, ho, _⟩ := F.alive y c hp
  exact (x _ o ho (O.C y c hp)).2

noncomputable abbrev NoE : Value → Shared → Prop := fun _ _ => False
variable {w : World} {b : Heap} {lev : Nat} {sc : Scope} {ρ : Ren} {st : St}

noncomputable def PostV (b : Heap) (st : St) (s : Shared) (Q : AV → St → Prop) (Qc : Value → Shared → Prop) : Prop :=
  ∀ v av st' h' tk', Step st s.heap st' h' → Inv b st' h' → Rep h' v av → Q av st' → Qc v { s with heap := h', toks := tk' }

/-- a tree that hangs on the frame and gives a value -/
noncomputable def VJ (w : World) (b : Heap) (lev : Nat) (sc : Scope) (ρ : Ren) (T : Env → Sem Value) (st : St) (Q : AV → St → Prop) : Prop :=
  ∀ (f : FId) (A : Around) (s : Shared), RoomA lev A → FrOK f sc s.heap ρ → Inv b st s.heap → Off b f st →
    ∀ Qc : Value → Shared → Prop, PostV b st s Q Qc → wpAny (model Pg w) A (T (f.env sc)) Qc NoE s
noncomputable abbrev EV (w : World) (b : Heap) (lev : Nat) (sc : Scope) (ρ : Ren) (e : Expr) (st : St) (Q : AV → St → Prop) : Prop := VJ w b lev sc ρ (fun env => eval e env) st Q

/-- a test -/
noncomputable def BJ (w : World) (b : Heap) (lev : Nat) (sc : Scope) (ρ : Ren) (T : Env → Sem Bool) (st : St) (Q : Bool → St → Prop) : Prop :=
  ∀ (f : FId) (A : Around) (s : Shared), RoomA lev A → FrOK f sc s.heap ρ → Inv b st s.heap → Off b f st →
    ∀ Qc : Bool → Shared → Prop, (∀ c st' h' tk', Step st s.heap st' h' → Inv b st' h' → Q c st' → Qc c { s with heap := h', toks := tk' }) → wpAny (model Pg w) A (T (f.env sc)) Qc NoE s
noncomputable abbrev TJ (w : World) (b : Heap) (lev : Nat) (sc : Scope) (ρ : Ren) (e : Expr) (st : St) (Q : Bool → St → Prop) : Prop := BJ w b lev sc ρ (fun env => isTrue e env (eval e env)) st Q

/-- items in order -/
noncomputable def LJ (w : World) (b : Heap) (lev : Nat) (sc : Scope) (ρ : Ren) (T : Env → Sem (List Value)) (st : St) (Q : List AV → St → Prop) : Prop :=
  ∀ (f : FId) (A : Around) (s : Shared), RoomA lev A → FrOK f sc s.heap ρ → Inv b st s.heap → Off b f st →
    ∀ Qc : List Value → Shared → Prop, (∀ vs xs st' h' tk', Step st s.heap st' h' → Inv b st' h' → RepAll h' vs xs → Q xs st' → Qc vs { s with heap := h', toks := tk' }) → wpAny (model Pg w) A (T (f.env sc)) Qc NoE s
noncomputable abbrev IJ (w : World) (b : Heap) (lev : Nat) (sc : Scope) (ρ : Ren) (pos : Pos) (es : List Expr) (st : St) (Q : List AV → St → Prop) : Prop := LJ w b lev sc ρ (fun env => spliced (backTo pos (starEach es env))) st Q

/-- an operation on values at hand -/
noncomputable def OP (w : World) (b : Heap) (lev : Nat) (args : List AV) (T : List Value → Sem Value) (st : St) (Q : AV → St → Prop) : Prop :=
  ∀ (A : Around) (s : Shared) (vs : List Value), RoomA lev A → Inv b st s.heap → RepAll s.heap vs args →
    ∀ Qc : Value → Shared → Prop, PostV b st s Q Qc → wpAny (model Pg w) A (T vs) Qc NoE s
noncomputable abbrev CallOk (w : World) (b : Heap) (lev : Nat) (f : Value) (args : List AV) (st : St) (Q : AV → St → Prop) : Prop := OP w b lev args (fun vs => call f vs) st Q
noncomputable abbrev BIN (w : World) (b : Heap) (lev : Nat) (op : Operator) (x y : AV) (st : St) (Q : AV → St → Prop) : Prop := OP w b lev [x, y] (fun vs => binaryOp op (vs.getD 0 .none) (vs.getD 1 .none)) st Q
noncomputable abbrev CMP (w : World) (b : Heap) (lev : Nat) (op : CmpOp) (x y : AV) (st : St) (Q : AV → St → Prop) : Prop := OP w b lev [x, y] (fun vs => compareOp op (vs.getD 0 .none) (vs.getD 1 .none)) st Q
/-- a truth asked of a value -/
noncomputable def TRU (w : World) (b : Heap) (lev : Nat) (x : AV) (st : St) (Q : Bool → St → Prop) : Prop :=
  ∀ (A : Around) (s : Shared) (v : Value), RoomA lev A → Inv b st s.heap → Rep s.heap v x →
    ∀ Qc : Bool → Shared → Prop, (∀ c st' h' tk', Step st s.heap st' h' → Inv b st' h' → Q c st' → Qc c { s with heap := h', toks := tk' }) → wpAny (model Pg w) A (truthy v) Qc NoE s

inductive AFlow where
  | next | brk | cont
  | ret (v : AV)
inductive RepF (h : Heap) : Flow → AFlow → Prop
  | next : RepF h .next .next
  | brk : RepF h .brk .brk
  | cont : RepF h .cont .cont
  | ret {v : Value} {x : AV} : Rep h v x → RepF h (.ret v) (.ret x)

/-- as Step, the frame's own cells aside -/
noncomputable def StepF (f : FId) (st : St) (h : Heap) (st' : St) (h' : Heap) : Prop := ∀ a o, h.get? a = some o → st a = none → ¬ Own f a → h'.get? a = some o ∧ st' a = none
theorem Step.toF {f : FId} {st st' : St} {h h' : Heap} (x : Step st h st' h') : StepF f st h st' h' := fun a o e g _ => x a o e g
theorem StepF.trans {f : FId} {st st₁ st₂ : St} {h h₁ h₂ : Heap} (x : StepF f st h st₁ h₁) (y : StepF f st₁ h₁ st₂ h₂) : StepF f st h st₂ h₂ :=
  fun a o e g n => let ⟨e₁, g₁⟩ := x a o e g n; y a o e₁ g₁ n

noncomputable def SJ (w : World) (b : Heap) (lev : Nat) (sc : Scope) (ρ : Ren) (T : Env → Sem Flow) (st : St) (Q : AFlow → Ren → St → Prop) : Prop :=
  ∀ (f : FId) (A : Around) (s : Shared), RoomA lev A → FrOK f sc s.heap ρ → Inv b st s.heap → Off b f st →
    ∀ Qc : Flow → Shared → Prop, (∀ fl afl ρ' st' h' tk', StepF f st s.heap st' h' → FrOK f sc h' ρ' → Inv b st' h' → Off b f st' → RepF h' fl afl → Q afl ρ' st' → Qc fl { s with heap := h', toks := tk' }) →
      wpAny (model Pg w) A (T (f.env sc)) Qc NoE s
noncomputable abbrev ES (w : World) (b : Heap) (lev : Nat) (sc : Scope) (ρ : Ren) (c : Stmt) (st : St) (Q : AFlow → Ren → St → Prop) : Prop := SJ w b lev sc ρ (fun env => exec c env) st Q
noncomputable abbrev EX (w : World) (b : Heap) (lev : Nat) (sc : Scope) (ρ : Ren) (cs : List Stmt) (st : St) (Q : AFlow → Ren → St → Prop) : Prop := SJ w b lev sc ρ (fun env => execs cs env) st Q

theorem FrOK.notImm {f : FId} {sc : Scope} {h : Heap} {ρ : Ren} (F : FrOK f sc h ρ) {a : Addr} {o : Obj} (m : Imm o) (e : h.get? a = some o) : ¬ Own f a := by
  rintro (rfl | ⟨y, hp⟩)
  · obtain ⟨m', ⟨o', _, _, ho, hd, _⟩, _⟩ := F.ns
    rw [e] at ho; cases ho; cases m <;> cases hd
  · obtain ⟨_, o', ho, hd⟩ := F.alive y _ hp
    rw [e] at ho; cases ho; cases m <;> cases hd
theorem FrOK.keepTF {b : Heap} {f : FId} {sc : Scope} {h h' : Heap} {ρ : Ren} {st st' : St} (F : FrOK f sc h ρ) (I : Inv b st h) (x : StepF f st h st' h') : KeepT h h' := fun a o m e => by
  refine (x a _ e ?_ (F.notImm m e)).1
  cases hs : st a with
  | none => rfl
  | some y => exact ((I.rep a y hs).notImm m e).elim
end

/-! F2 -/
section

variable {w : World} {b : Heap} {lev : Nat} {sc : Scope} {ρ : Ren} {st : St}

theorem VJ.mono {T : Env → Sem Value} {Q Q' : AV → St → Prop} (x : VJ w b lev sc ρ T st Q) (h : ∀ v st', Q v st' → Q' v st') : VJ w b lev sc ρ T st Q' :=
  fun f A s R F I O Qc P => x f A s R F I O Qc fun v av st' h' tk' S I' r q => P v av st' h' tk' S I' r (h _ _ q)
/-- nothing is done: the value is there -/
theorem PostV.here {s : Shared} {Q : AV → St → Prop} {Qc : Value → Shared → Prop} (P : PostV b st s Q Qc) (I : Inv b st s.heap) {v : Value} {x : AV} (r : Rep s.heap v x) (q : Q x st) (tk : Nat) : Qc v { s with toks := tk } :=
  P v x st s.heap tk Step.refl I r q

noncomputable def isLoc (sc : Scope) (x : Str) : Bool := match sc.names.lookup x with | some .local | some .cell | some .free => true | _ => false

theorem EV_name {x : Str} {pos : Pos} {av : AV} {Q : AV → St → Prop} (hρ : ρ x = some av) (q : Q av st)
    (hk : isLoc sc x = true := by decide +kernel) (hd : (x == ("__debug__" : Str)) = false := by decide +kernel) (hc : (x == ("__classdict__" : Str)) = false := by decide +kernel) : EV w b lev sc ρ (.Name x pos) st Q := by
  intro f A s R F I O Qc P
  refine wpAny_Name ?_ hd
  unfold isLoc at hk
  split at hk
  · rename_i hl
    obtain ⟨m, hn, hm⟩ := F.ns
    obtain ⟨v, e, r⟩ := hm x av hρ hl
    exact wpAny_loadName_local F.fn hl hn e (P.here I r q _)
  · rename_i hl
    obtain ⟨c, v, a, hv, r⟩ := F.cel x av hρ (.inl hl)
    exact wpAny_loadName_cell F.fn hl a hv (P.here I r q _)
  · rename_i hl
    obtain ⟨c, v, a, hv, r⟩ := F.cel x av hρ (.inr hl)
    exact wpAny_loadName_free F.fn hl a hv (P.here I r q _) hc
  · cases hk

theorem Inv.inK (G : Gd w b) {h : Heap} (I : Inv b st h) : (hd.heap_1 w.params).In h := G.X.keeps I.base

theorem EV_glob (G : Gd w b) {x : Str} {pos : Pos} {v : Value} {av : AV} {Q : AV → St → Prop} (e : nsIn (hd.heap_1 w.params) mainGlobals x = some (some v)) (r : ∀ h : Heap, (∀ a o, b.get? a = some o → h.get? a = some o) → Rep h v av) (q : Q av st)
    (hx : sc.names.lookup x = some .globalImplicit := by decide +kernel) (hd : (x == ("__debug__" : Str)) = false := by decide +kernel) : EV w b lev sc ρ (.Name x pos) st Q := by
  intro f A s R F I O Qc P
  obtain ⟨mg, g⟩ := G.g
  exact Name_function_global F.fn hx (loadGlobal_global (env := f.env sc) (g.keeps I.base) (mg_of G.X g e) (P.here I (r _ I.base) q _)) hd
theorem EV_globV (G : Gd w b) {x : Str} {pos : Pos} {v : Value} {Q : AV → St → Prop} (e : nsIn (hd.heap_1 w.params) mainGlobals x = some (some v)) (q : Q (.val v) st)
    (hx : sc.names.lookup x = some .globalImplicit := by decide +kernel) (hd : (x == ("__debug__" : Str)) = false := by decide +kernel) : EV w b lev sc ρ (.Name x pos) st Q := EV_glob G e (fun _ _ => .val v) q hx hd
theorem EV_globI (G : Gd w b) {x : Str} {pos : Pos} {i : Int} {tk : Tok} {Q : AV → St → Prop} (e : nsIn (hd.heap_1 w.params) mainGlobals x = some (some (.int i tk))) (q : Q (.int i) st)
    (hx : sc.names.lookup x = some .globalImplicit := by decide +kernel) (hd : (x == ("__debug__" : Str)) = false := by decide +kernel) : EV w b lev sc ρ (.Name x pos) st Q := EV_glob G e (fun _ _ => .int i tk) q hx hd
theorem EV_built (G : Gd w b) {x : Str} {pos : Pos} {v : Value} {Q : AV → St → Prop} (e : nsIn (hd.heap_1 w.params) mainGlobals x = some none) (hv : bootBuiltins x = some v) (hn : x ≠ "__name__") (q : Q (.val v) st)
    (hx : sc.names.lookup x = some .globalImplicit := by decide +kernel) (hd : (x == ("__debug__" : Str)) = false := by decide +kernel) : EV w b lev sc ρ (.Name x pos) st Q := by
  intro f A s R F I O Qc P
  obtain ⟨mg, g⟩ := G.g
  obtain ⟨mb, bn, hb⟩ := G.bn
  exact Name_function_global F.fn hx (loadGlobal_builtin (env := f.env sc) (g.keeps I.base) (mg_none_of G.X g e) (bn.keeps I.base) ((hb x hn).trans hv) (P.here I (.val v) q _)) hd

theorem EV_int {i : Int} {k : Nat} {pos : Pos} {Q : AV → St → Prop} (q : Q (.int i) st) : EV w b lev sc ρ (.Constant (.int i) k pos) st Q :=
  fun _ _ _ _ _ I _ _ P => wpAny_Constant_int (P.here I (.int i _) q _)
theorem EV_str {x : Str} {k : Nat} {pos : Pos} {Q : AV → St → Prop} (q : Q (.str x) st) : EV w b lev sc ρ (.Constant (.str x) k pos) st Q :=
  fun _ _ _ _ _ I _ _ P => wpAny_Constant_str (P.here I (.str x _) q _)
theorem EV_none {k : Nat} {pos : Pos} {Q : AV → St → Prop} (q : Q .none st) : EV w b lev sc ρ (.Constant .none k pos) st Q :=
  fun _ _ _ _ _ I _ _ P => wpAny_Constant_none (P.here I .none q _)
/-- a frame and what has been made since -/
theorem EV_BinOp {l r : Expr} {op : Operator} {pos : Pos} {Q : AV → St → Prop} (h : EV w b lev sc ρ l st fun x st₁ => EV w b lev sc ρ r st₁ fun y st₂ => BIN w b lev op x y st₂ Q) : EV w b lev sc ρ (.BinOp l op r pos) st Q := by
  intro f A s R F I O Qc P
  refine wpAny_BinOp (h f A s R F I O _ fun v av st₁ h₁ tk₁ S₁ I₁ r₁ q₁ => ?_)
  refine q₁ f A _ R (F.step I O S₁) I₁ (F.off O S₁) _ fun v₂ av₂ st₂ h₂ tk₂ S₂ I₂ r₂ q₂ => ?_
  refine q₂ A _ [v, v₂] R I₂ (.cons (r₁.keep (S₂.keepT I₁)) (.cons r₂ .nil)) _ fun v₃ av₃ st₃ h₃ tk₃ S₃ I₃ r₃ q₃ => ?_
  exact P v₃ av₃ st₃ h₃ tk₃ ((S₁.trans S₂).trans S₃) I₃ r₃ q₃

theorem EV_Cmp {l r : Expr} {op : CmpOp} {pos : Pos} {Q : AV → St → Prop} (h : EV w b lev sc ρ l st fun x st₁ => EV w b lev sc ρ r st₁ fun y st₂ => CMP w b lev op x y st₂ Q)
    (hm : behindInMarks op r = false := by with_unfolding_all rfl) : EV w b lev sc ρ (.Compare l [op] [r] pos) st Q := by
  intro f A s R F I O Qc P
  refine wpAny_Compare1 (h f A s R F I O _ fun v av st₁ h₁ tk₁ S₁ I₁ r₁ q₁ => ?_) hm
  refine q₁ f A _ R (F.step I O S₁) I₁ (F.off O S₁) _ fun v₂ av₂ st₂ h₂ tk₂ S₂ I₂ r₂ q₂ => ?_
  refine q₂ A _ [v, v₂] R I₂ (.cons (r₁.keep (S₂.keepT I₁)) (.cons r₂ .nil)) _ fun v₃ av₃ st₃ h₃ tk₃ S₃ I₃ r₃ q₃ => ?_
  exact P v₃ av₃ st₃ h₃ tk₃ ((S₁.trans S₂).trans S₃) I₃ r₃ q₃

theorem TJ_Cmp {l r : Expr} {op : CmpOp} {pos : Pos} {Q : Bool → St → Prop} (h : EV w b lev sc ρ l st fun x st₁ => EV w b lev sc ρ r st₁ fun y st₂ => CMP w b lev op x y st₂ fun z st₃ => TRU w b lev z st₃ Q)
    (hm : behindInMarks op r = false := by with_unfolding_all rfl) : TJ w b lev sc ρ (.Compare l [op] [r] pos) st Q := by
  intro f A s R F I O Qc P
  refine wpAny_isTrue_Compare1 (h f A s R F I O _ fun v av st₁ h₁ tk₁ S₁ I₁ r₁ q₁ => ?_) hm
  refine q₁ f A _ R (F.step I O S₁) I₁ (F.off O S₁) _ fun v₂ av₂ st₂ h₂ tk₂ S₂ I₂ r₂ q₂ => ?_
  refine q₂ A _ [v, v₂] R I₂ (.cons (r₁.keep (S₂.keepT I₁)) (.cons r₂ .nil)) _ fun v₃ av₃ st₃ h₃ tk₃ S₃ I₃ r₃ q₃ => ?_
  refine q₃ A _ v₃ R I₃ r₃ _ fun c st₄ h₄ tk₄ S₄ I₄ q₄ => ?_
  exact P c st₄ h₄ tk₄ (((S₁.trans S₂).trans S₃).trans S₄) I₄ q₄

theorem TJ_value {e : Expr} {Q : Bool → St → Prop} (h : EV w b lev sc ρ e st fun x st₁ => TRU w b lev x st₁ Q)
    (he : ∀ env, isTrue e env (eval e env) = (do let v ← eval e env; standAt e.pos; holding [v] (truthy v)) := by intro _; with_unfolding_all rfl) : TJ w b lev sc ρ e st Q := by
  intro f A s R F I O Qc P
  refine wpAny_isTrue_value (h f A s R F I O _ fun v av st₁ h₁ tk₁ S₁ I₁ r₁ q₁ => ?_) (he _)
  exact q₁ A _ v R I₁ r₁ _ fun c st₄ h₄ tk₄ S₄ I₄ q₄ => P c st₄ h₄ tk₄ (S₁.trans S₄) I₄ q₄

theorem TRU_bool {c : Bool} {Q : Bool → St → Prop} (q : Q c st) : TRU w b lev (.bool c) st Q := by
  intro A s v R I r Qc P
  cases r
  exact wpAny_truthy_bool (P c st s.heap s.toks Step.refl I q)

theorem EV_IfExp {t x y : Expr} {pos : Pos} {Q : AV → St → Prop} (h : TJ w b lev sc ρ t st fun c st₁ => if c then EV w b lev sc ρ x st₁ Q else EV w b lev sc ρ y st₁ Q) : EV w b lev sc ρ (.IfExp t x y pos) st Q := by
  intro f A s R F I O Qc P
  refine wpAny_IfExp (h f A s R F I O _ fun c st₁ h₁ tk₁ S₁ I₁ q₁ => ?_)
  cases c with
  | true =>
    simp only [if_true] at q₁ ⊢
    exact q₁ f A _ R (F.step I O S₁) I₁ (F.off O S₁) _ fun v₃ av₃ st₃ h₃ tk₃ S₃ I₃ r₃ q₃ => P v₃ av₃ st₃ h₃ tk₃ (S₁.trans S₃) I₃ r₃ q₃
  | false =>
    simp only [Bool.false_eq_true, if_false] at q₁ ⊢
    exact q₁ f A _ R (F.step I O S₁) I₁ (F.off O S₁) _ fun v₃ av₃ st₃ h₃ tk₃ S₃ I₃ r₃ q₃ => P v₃ av₃ st₃ h₃ tk₃ (S₁.trans S₃) I₃ r₃ q₃

noncomputable def AT (w : World) (b : Heap) (lev : Nat) (sc : Scope) (ρ : Ren) (op : BoolOp) (es : List Expr) (st : St) (Q : Bool → St → Prop) : Prop := BJ w b lev sc ρ (fun env => allTrue op es env) st Q
theorem TJ_BoolOp {op : BoolOp} {es : List Expr} {pos : Pos} {Q : Bool → St → Prop} (h : AT w b lev sc ρ op es st Q) : TJ w b lev sc ρ (.BoolOp op es pos) st Q :=
  fun f A s R F I O Qc P => wpAny_isTrue_BoolOp (h f A s R F I O Qc P)
theorem AT_and_nil {Q : Bool → St → Prop} (q : Q true st) : AT w b lev sc ρ .And [] st Q := fun _ _ s _ _ I _ _ P => wpAny_allTrue_And_nil (P true st s.heap s.toks Step.refl I q)
theorem AT_or_nil {Q : Bool → St → Prop} (q : Q false st) : AT w b lev sc ρ .Or [] st Q := fun _ _ s _ _ I _ _ P => wpAny_allTrue_Or_nil (P false st s.heap s.toks Step.refl I q)
theorem AT_and_cons {e : Expr} {es : List Expr} {Q : Bool → St → Prop} (h : TJ w b lev sc ρ e st fun c st₁ => if c then AT w b lev sc ρ .And es st₁ Q else Q false st₁) : AT w b lev sc ρ .And (e :: es) st Q := by
  intro f A s R F I O Qc P
  refine wpAny_allTrue_And_cons (h f A s R F I O _ fun c st₁ h₁ tk₁ S₁ I₁ q₁ => ?_)
  cases c with
  | true =>
    simp only [if_true] at q₁ ⊢
    exact q₁ f A _ R (F.step I O S₁) I₁ (F.off O S₁) _ fun c st₃ h₃ tk₃ S₃ I₃ q₃ => P c st₃ h₃ tk₃ (S₁.trans S₃) I₃ q₃
  | false =>
    simp only [Bool.false_eq_true, if_false] at q₁ ⊢
    exact P _ _ _ _ S₁ I₁ q₁
theorem AT_or_cons {e : Expr} {es : List Expr} {Q : Bool → St → Prop} (h : TJ w b lev sc ρ e st fun c st₁ => if c then Q true st₁ else AT w b lev sc ρ .Or es st₁ Q) : AT w b lev sc ρ .Or (e :: es) st Q := by
  intro f A s R F I O Qc P
  refine wpAny_allTrue_Or_cons (h f A s R F I O _ fun c st₁ h₁ tk₁ S₁ I₁ q₁ => ?_)
  cases c with
  | true =>
    simp only [if_true] at q₁ ⊢
    exact P _ _ _ _ S₁ I₁ q₁
  | false =>
    simp only [Bool.false_eq_true, if_false] at q₁ ⊢
    exact q₁ f A _ R (F.step I O S₁) I₁ (F.off O S₁) _ fun c st₃ h₃ tk₃ S₃ I₃ q₃ => P c st₃ h₃ tk₃ (S₁.trans S₃) I₃ q₃

theorem EV_And2 {x y : Expr} {pos : Pos} {Q : AV → St → Prop} (h : EV w b lev sc ρ x st fun v st₁ => TRU w b lev v st₁ fun c st₂ => if c then EV w b lev sc ρ y st₂ Q else Q v st₂) : EV w b lev sc ρ (.BoolOp .And [x, y] pos) st Q := by
  intro f A s R F I O Qc P
  refine wpAny_And2 (h f A s R F I O _ fun v av st₁ h₁ tk₁ S₁ I₁ r₁ q₁ => ?_)
  refine q₁ A _ v R I₁ r₁ _ fun c st₂ h₂ tk₂ S₂ I₂ q₂ => ?_
  cases c with
  | true =>
    simp only [if_true] at q₂ ⊢
    exact q₂ f A _ R (F.step I O (S₁.trans S₂)) I₂ (F.off O (S₁.trans S₂)) _ fun v₃ av₃ st₃ h₃ tk₃ S₃ I₃ r₃ q₃ => P v₃ av₃ st₃ h₃ tk₃ ((S₁.trans S₂).trans S₃) I₃ r₃ q₃
  | false =>
    simp only [Bool.false_eq_true, if_false] at q₂ ⊢
    exact P _ _ _ _ _ (S₁.trans S₂) I₂ (r₁.keep (S₂.keepT I₁)) q₂

theorem EV_neg1 {i : Int} {k : Nat} {p pos : Pos} {Q : AV → St → Prop} (q : Q (.int (-i)) st) : EV w b lev sc ρ (.UnaryOp .USub (.Constant (.int i) k p) pos) st Q := by
  intro f A s R F I O Qc P
  refine wpAny_UnaryOp (wpAny_Constant_int ?_)
  refine neg_int ?_
  exact P.here I (.int (-i) _) q _

theorem IJ_nil {pos : Pos} {Q : List AV → St → Prop} (q : Q [] st) : IJ w b lev sc ρ pos [] st Q :=
  fun _ _ s _ _ I _ _ P => wpAny_items_nil (P [] [] st s.heap s.toks Step.refl I .nil q)
theorem IJ_cons {pos : Pos} {e : Expr} {es : List Expr} {Q : List AV → St → Prop} (h : EV w b lev sc ρ e st fun x st₁ => IJ w b lev sc ρ pos es st₁ fun xs st₂ => Q (x :: xs) st₂)
    (he : ∀ env, starEach (e :: es) env = (false, eval e env) :: starEach es env := by intro _; with_unfolding_all rfl) : IJ w b lev sc ρ pos (e :: es) st Q := by
  intro f A s R F I O Qc P
  refine wpAny_items_cons (h f A s R F I O _ fun v av st₁ h₁ tk₁ S₁ I₁ r₁ q₁ => ?_) (he _)
  refine q₁ f A _ R (F.step I O S₁) I₁ (F.off O S₁) _ fun vs xs st₂ h₂ tk₂ S₂ I₂ r₂ q₂ => ?_
  exact P _ _ st₂ h₂ tk₂ (S₁.trans S₂) I₂ (.cons (r₁.keep (S₂.keepT I₁)) r₂) q₂

/-- a new object, untracked -/
theorem step_push {h : Heap} (I : Inv b st h) (o : Obj) : Step st h st (h.push o) ∧ Inv b st (h.push o) := by
  have k : KeepT h (h.push o) := fun _ _ _ e => Heap.get?_push_of_some _ e
  refine ⟨fun a o' e g => ⟨Heap.get?_push_of_some _ e, g⟩, ⟨fun a x e => ?_, fun a x e => Heap.get?_push_of_some _ (I.base a x e), I.off⟩⟩
  have r := I.rep a x e
  cases x with
  | list xs => obtain ⟨vs, n, e', r'⟩ := r; exact ⟨vs, n, Heap.get?_push_of_some _ e', r'.keep k⟩
  | inst C dx => exact Heap.get?_push_of_some _ (show h.get? a = _ from r)
  | dict fs => obtain ⟨es, n, e', r'⟩ := r; exact ⟨es, n, Heap.get?_push_of_some _ e', r'.keep k⟩
  | raw o => exact ⟨Heap.get?_push_of_some _ r.1, r.2⟩
theorem RepO.keep {h h' : Heap} {a : Addr} {x : AObj} (k : KeepT h h') (e : ∀ o, h.get? a = some o → h'.get? a = some o) (r : RepO h a x) : RepO h' a x := by
  cases x with
  | list xs => obtain ⟨vs, n, e', r'⟩ := r; exact ⟨vs, n, e _ e', r'.keep k⟩
  | inst C dx => exact e _ (show h.get? a = _ from r)
  | dict fs => obtain ⟨es, n, e', r'⟩ := r; exact ⟨es, n, e _ e', r'.keep k⟩
  | raw o => exact ⟨e _ r.1, r.2⟩
theorem Inv.dead {h : Heap} (I : Inv b st h) {a : Addr} (e : h.get? a = none) : st a = none := by
  cases hs : st a with
  | none => rfl
  | some o =>
    have r := I.rep a o hs
    cases o with
    | list xs => obtain ⟨vs, n, e', r'⟩ := r; rw [e] at e'; cases e'
    | inst C dx => have e' : h.get? a = some (instObj C dx) := r; rw [e] at e'; cases e'
    | dict fs => obtain ⟨es, n, e', r'⟩ := r; rw [e] at e'; cases e'
    | raw o => have e' := r.1; rw [e] at e'; cases e'
theorem get_size {h : Heap} : h.get? h.objs.size = none := by
  cases e : h.get? h.objs.size with
  | none => rfl
  | some o => exact absurd (Heap.lt_size e) (Nat.lt_irrefl _)
/-- a new object, tracked -/
theorem step_new {h : Heap} (I : Inv b st h) (o : Obj) (x : AObj) (r : RepO (h.push o) h.objs.size x) (hf : o.isFreed = false := by with_unfolding_all rfl) : Step st h (upd st h.objs.size x) (h.push o) ∧ Inv b (upd st h.objs.size x) (h.push o) ∧ st h.objs.size = none := by
  have hn := I.dead (get_size (h := h))
  obtain ⟨S, J⟩ := step_push I o
  refine ⟨fun a o' e g => ⟨(S a o' e g).1, ?_⟩, ⟨fun a y e => ?_, J.base, fun a o' e => ?_⟩, hn⟩
  · rw [upd_ne (Nat.ne_of_lt (Heap.lt_size e))]; exact g
  · by_cases ha : a = h.objs.size
    · subst ha; rw [upd_self] at e; cases e; exact r
    · rw [upd_ne ha] at e; exact J.rep a y e
  · rw [upd_ne (Nat.ne_of_lt (Heap.lt_size (I.base a o' e)))]; exact I.off a o' e

theorem EV_Tuple {es : List Expr} {k : Nat} {pos : Pos} {Q : AV → St → Prop} (h : IJ w b lev sc ρ pos es st fun xs st₁ => xs.length ≤ sizeLine ∧ Q (.tup xs) st₁) : EV w b lev sc ρ (.Tuple es k pos) st Q := by
  intro f A s R F I O Qc P
  refine wpAny_Tuple (h f A s R F I O _ fun vs xs st₁ h₁ tk₁ S₁ I₁ r₁ q₁ => ?_)
  refine ⟨by rw [r₁.length]; exact q₁.1, ?_⟩
  obtain ⟨S₂, I₂⟩ := step_push I₁ (tupO vs 0)
  exact P _ _ _ _ tk₁ (S₁.trans S₂) I₂ (.tup (Heap.get?_push_size _ rfl) (r₁.keep (S₂.keepT I₁))) q₁.2
theorem EV_List {es : List Expr} {pos : Pos} {Q : AV → St → Prop} (h : IJ w b lev sc ρ pos es st fun xs st₁ => xs.length ≤ sizeLine ∧ ∀ a, st₁ a = none → Q (.obj a) (upd st₁ a (.list xs))) : EV w b lev sc ρ (.List es pos) st Q := by
  intro f A s R F I O Qc P
  refine wpAny_List (h f A s R F I O _ fun vs xs st₁ h₁ tk₁ S₁ I₁ r₁ q₁ => ?_)
  refine ⟨by rw [r₁.length]; exact q₁.1, ?_⟩
  have k := (step_push I₁ (lstO vs 0)).1.keepT I₁
  obtain ⟨S₂, I₂, hn⟩ := step_new I₁ (lstO vs 0) (.list xs) ⟨vs, 0, Heap.get?_push_size _ rfl, r₁.keep k⟩
  exact P _ _ _ _ tk₁ (S₁.trans S₂) I₂ (.obj _) (q₁.2 _ hn)
end

/-! F3 -/
section

variable {w : World} {b : Heap} {lev : Nat} {sc : Scope} {ρ : Ren} {st : St}

/-! ## ints -/
section
variable {x y : Int} {Q : AV → St → Prop}
theorem BIN_add (q : Q (.int (x + y)) st) : BIN w b lev .Add (.int x) (.int y) st Q := by
  rintro A s vs R I (_ | ⟨⟨⟩, _ | ⟨⟨⟩, ⟨⟩⟩⟩) Qc P
  exact add_int (P.here I (.int _ _) q _)
theorem BIN_sub (q : Q (.int (x - y)) st) : BIN w b lev .Sub (.int x) (.int y) st Q := by
  rintro A s vs R I (_ | ⟨⟨⟩, _ | ⟨⟨⟩, ⟨⟩⟩⟩) Qc P
  exact sub_int' (P.here I (.int _ _) q _)
theorem BIN_mul (hm : IntMulOk x y) (q : Q (.int (x * y)) st) : BIN w b lev .Mult (.int x) (.int y) st Q := by
  rintro A s vs R I (_ | ⟨⟨⟩, _ | ⟨⟨⟩, ⟨⟩⟩⟩) Qc P
  exact mul_int (P.here I (.int _ _) q _) hm
theorem BIN_fdiv (h0 : y ≠ 0) (hs : y.natAbs < 1073741824) (q : Q (.int (x.fdiv y)) st) : BIN w b lev .FloorDiv (.int x) (.int y) st Q := by
  rintro A s vs R I (_ | ⟨⟨⟩, _ | ⟨⟨⟩, ⟨⟩⟩⟩) Qc P
  exact floordiv_int h0 (P.here I (.int _ _) q _) (.inl (PyProof.noPylong_small hs))
theorem BIN_fmod (h0 : y ≠ 0) (q : Q (.int (x.fmod y)) st) : BIN w b lev .Mod (.int x) (.int y) st Q := by
  rintro A s vs R I (_ | ⟨⟨⟩, _ | ⟨⟨⟩, ⟨⟩⟩⟩) Qc P
  exact mod_int' h0 (P.here I (.int _ _) q _)
theorem BIN_pow (h0 : 0 ≤ y) (h1 : y ≤ 1000000) (hx : x.natAbs < 2 ^ 64) (q : Q (.int (x ^ y.toNat)) st) : BIN w b lev .Pow (.int x) (.int y) st Q := by
  rintro A s vs R I (_ | ⟨⟨⟩, _ | ⟨⟨⟩, ⟨⟩⟩⟩) Qc P
  exact pow_int_small h0 h1 hx (P.here I (.int _ _) q _)
theorem CMP_lt (q : Q (.bool (decide (x < y))) st) : CMP w b lev .Lt (.int x) (.int y) st Q := by
  rintro A s vs R I (_ | ⟨⟨⟩, _ | ⟨⟨⟩, ⟨⟩⟩⟩) Qc P
  exact lt_int (P.here I (.bool _) q _)
theorem CMP_le (q : Q (.bool (decide (x ≤ y))) st) : CMP w b lev .LtE (.int x) (.int y) st Q := by
  rintro A s vs R I (_ | ⟨⟨⟩, _ | ⟨⟨⟩, ⟨⟩⟩⟩) Qc P
  exact le_int (P.here I (.bool _) q _)
theorem CMP_gt (q : Q (.bool (decide (y < x))) st) : CMP w b lev .Gt (.int x) (.int y) st Q := by
  rintro A s vs R I (_ | ⟨⟨⟩, _ | ⟨⟨⟩, ⟨⟩⟩⟩) Qc P
  exact gt_int (P.here I (.bool _) q _)
end

/-! ## data: equality, membership -/
mutual
noncomputable def AV.py : AV → PyData
  | .none => .none
  | .bool c => .bool c
  | .int i => .int i
  | .str x => .str x
  | .tup xs => .tuple (AV.pys xs)
  | .obj _ => .none
  | .rng _ _ _ => .none
  | .val _ => .none
  | .cells _ _ => .none
noncomputable def AV.pys : List AV → List PyData
  | [] => []
  | x :: xs => x.py :: AV.pys xs
end
mutual
/-- data without bools, of a depth -/
noncomputable def AV.dat : Nat → AV → Bool
  | _, .none => true
  | _, .int _ => true
  | _, .str x => PyData.strOk x
  | n + 1, .tup xs => AV.dats n xs
  | _, _ => false
noncomputable def AV.dats : Nat → List AV → Bool
  | _, [] => true
  | n, x :: xs => x.dat n && AV.dats n xs
end

mutual
theorem Rep.reads {h : Heap} : ∀ {n : Nat} {v : Value} {x : AV}, Rep h v x → x.dat n = true → ∃ as, Reads h v x.py as
  | _, _, _, .none, _ => ⟨_, .none⟩
  | _, _, _, .int i t, _ => ⟨_, .int i t⟩
  | _, _, _, .str x t, _ => ⟨_, .str x t⟩
  | n + 1, _, _, .tup e r, d => by
    simp only [AV.dat] at d
    obtain ⟨as, ra⟩ := RepAll.reads r d
    exact ⟨as, .tuple e rfl rfl (by simpa [AV.py] using ra)⟩
  | 0, _, _, .tup e r, d => by simp [AV.dat] at d
  | _, _, _, .bool b, d => by simp [AV.dat] at d
  | _, _, _, .obj a, d => by simp [AV.dat] at d
  | _, _, _, .rng _, d => by simp [AV.dat] at d
  | _, _, _, .val v, d => by simp [AV.dat] at d
theorem RepAll.reads {h : Heap} : ∀ {n : Nat} {vs : List Value} {xs : List AV}, RepAll h vs xs → AV.dats n xs = true → ∃ as, ReadsAll h vs (AV.pys xs) as
  | _, _, _, .nil, _ => ⟨_, .nil⟩
  | n, _, _, .cons x r, d => by
    simp only [AV.dats, Bool.and_eq_true] at d
    obtain ⟨as, ra⟩ := Rep.reads x d.1
    obtain ⟨bs, rb⟩ := RepAll.reads r d.2
    exact ⟨_, .cons ra rb⟩
end
mutual
theorem AV.lay : ∀ {n : Nat} {x : AV}, x.dat n = true → x.py.canLay0 = true ∧ x.py.depth ≤ n
  | _, .none, _ => ⟨rfl, by simp [AV.py, PyData.depth]⟩
  | _, .int i, _ => ⟨rfl, by simp [AV.py, PyData.depth]⟩
  | _, .str x, d => ⟨by simp only [AV.dat] at d; simpa [AV.py, PyData.canLay0] using d, by simp [AV.py, PyData.depth]⟩
  | n + 1, .tup xs, d => by
    simp only [AV.dat] at d
    have := AV.lays d
    simp only [AV.py, PyData.canLay0, PyData.depth]
    exact ⟨this.1, by omega⟩
  | 0, .tup xs, d => by simp [AV.dat] at d
  | _, .bool b, d => by simp [AV.dat] at d
  | _, .obj a, d => by simp [AV.dat] at d
  | _, .rng _ _ _, d => by simp [AV.dat] at d
  | _, .val v, d => by simp [AV.dat] at d
  | _, .cells v u, d => by simp [AV.dat] at d
theorem AV.lays : ∀ {n : Nat} {xs : List AV}, AV.dats n xs = true → PyData.canLayAll0 (AV.pys xs) = true ∧ PyData.depthAll (AV.pys xs) ≤ n
  | _, [], _ => ⟨rfl, by simp [AV.pys, PyData.depthAll]⟩
  | n, x :: xs, d => by
    simp only [AV.dats, Bool.and_eq_true] at d
    have a := AV.lay d.1
    have b := AV.lays d.2
    simp only [AV.pys, PyData.canLayAll0, PyData.depthAll, Bool.and_eq_true]
    exact ⟨⟨a.1, b.1⟩, Nat.max_le.mpr ⟨a.2, b.2⟩⟩
end
noncomputable abbrev AV.beq (x y : AV) : Bool := PyData.eqv x.py y.py
noncomputable abbrev AV.beqs (xs ys : List AV) : Bool := PyData.eqvAll (AV.pys xs) (AV.pys ys)
mutual
theorem AV.beq_iff : ∀ {n m : Nat} {x y : AV}, x.dat n = true → y.dat m = true → (x.beq y = true ↔ x = y)
  | n, m, x, y, hx, hy => by
    cases x with
    | none => cases y <;> simp_all [AV.beq, AV.py, PyData.eqv, AV.dat]
    | bool c => simp [AV.dat] at hx
    | obj a => simp [AV.dat] at hx
    | rng _ _ _ => simp [AV.dat] at hx
    | val a => simp [AV.dat] at hx
    | cells a a' => simp [AV.dat] at hx
    | int i => cases y <;> simp_all [AV.beq, AV.py, PyData.eqv, AV.dat]
    | str i => cases y <;> simp_all [AV.beq, AV.py, PyData.eqv, AV.dat]
    | tup xs =>
      cases y with
      | tup ys =>
        cases n with
        | zero => simp [AV.dat] at hx
        | succ n =>
          cases m with
          | zero => simp [AV.dat] at hy
          | succ m =>
            simp only [AV.dat] at hx hy
            have := AV.beqs_iff hx hy
            simpa [AV.beq, AV.py, PyData.eqv, AV.beqs] using this
      | bool c => simp [AV.dat] at hy
      | obj a => simp [AV.dat] at hy
      | rng _ _ _ => simp [AV.dat] at hy
      | val a => simp [AV.dat] at hy
      | cells a a' => simp [AV.dat] at hy
      | _ => simp [AV.beq, AV.py, PyData.eqv]
theorem AV.beqs_iff : ∀ {n m : Nat} {xs ys : List AV}, AV.dats n xs = true → AV.dats m ys = true → (AV.beqs xs ys = true ↔ xs = ys)
  | _, _, [], [], _, _ => by simp [AV.beqs, AV.pys, PyData.eqvAll]
  | _, _, [], y :: ys, _, _ => by simp [AV.beqs, AV.pys, PyData.eqvAll]
  | _, _, x :: xs, [], _, _ => by simp [AV.beqs, AV.pys, PyData.eqvAll]
  | n, m, x :: xs, y :: ys, hx, hy => by
    simp only [AV.dats, Bool.and_eq_true] at hx hy
    have a := AV.beq_iff hx.1 hy.1
    have b := AV.beqs_iff hx.2 hy.2
    simp only [AV.beq, AV.beqs] at a b
    simp only [AV.beqs, AV.pys, PyData.eqvAll, Bool.and_eq_true, a, b, List.cons.injEq]
end

section
variable {x y : AV} {Q : AV → St → Prop}
theorem room_eq {A : Around} (R : RoomA lev A) {a c : PyData} (ha : a.depth ≤ 400) : A.units + min a.depth c.depth < cLine := by
  have := R.un
  have := cLine_is
  omega
theorem CMP_eq (hx : x.dat 8 = true) (hy : y.dat 8 = true) (q : Q (.bool (x.beq y)) st) : CMP w b lev .Eq x y st Q := by
  rintro A s vs R I (_ | ⟨rx, _ | ⟨ry, ⟨⟩⟩⟩) Qc P
  obtain ⟨as, ra⟩ := rx.reads hx
  obtain ⟨bs, rb⟩ := ry.reads hy
  exact SeqAt.compareEq_reads ra rb (AV.lay hx).1 (AV.lay hy).1 (room_eq R (by have := (AV.lay hx).2; omega)) (P.here I (.bool _) q _)
theorem CMP_ne (hx : x.dat 8 = true) (hy : y.dat 8 = true) (q : Q (.bool (!x.beq y)) st) : CMP w b lev .NotEq x y st Q := by
  rintro A s vs R I (_ | ⟨rx, _ | ⟨ry, ⟨⟩⟩⟩) Qc P
  obtain ⟨as, ra⟩ := rx.reads hx
  obtain ⟨bs, rb⟩ := ry.reads hy
  exact SeqAt.compareNe_reads ra rb (AV.lay hx).1 (AV.lay hy).1 (room_eq R (by have := (AV.lay hx).2; omega)) (P.here I (.bool _) q _)
theorem reads_list {h : Heap} {a : Addr} {xs : List AV} (I : Inv b st h) (e : st a = some (.list xs)) (hx : AV.dats 8 xs = true) : ∃ as, Reads h (.ref a) (.list (AV.pys xs)) as := by
  obtain ⟨vs, n, e', r⟩ := I.rep a _ e
  obtain ⟨as, ra⟩ := r.reads hx
  exact ⟨_, .list e' rfl rfl (by simpa using ra)⟩
theorem lay_list {xs : List AV} (hx : AV.dats 8 xs = true) : (PyData.list (AV.pys xs)).canLay0 = true ∧ (PyData.list (AV.pys xs)).depth ≤ 9 := by
  have := AV.lays hx
  simp only [PyData.canLay0, PyData.depth]
  exact ⟨this.1, by omega⟩
theorem CMP_eq_list {a c : Addr} {xs ys : List AV} (ea : st a = some (.list xs)) (ec : st c = some (.list ys)) (hx : AV.dats 8 xs = true) (hy : AV.dats 8 ys = true) (q : Q (.bool (AV.beqs xs ys)) st) : CMP w b lev .Eq (.obj a) (.obj c) st Q := by
  rintro A s vs R I (_ | ⟨⟨⟩, _ | ⟨⟨⟩, ⟨⟩⟩⟩) Qc P
  obtain ⟨as, ra⟩ := reads_list I ea hx
  obtain ⟨bs, rb⟩ := reads_list I ec hy
  exact SeqAt.compareEq_reads ra rb (lay_list hx).1 (lay_list hy).1 (room_eq R (by have := (lay_list hx).2; omega)) (P.here I (.bool _) q _)
theorem CMP_ne_list {a c : Addr} {xs ys : List AV} (ea : st a = some (.list xs)) (ec : st c = some (.list ys)) (hx : AV.dats 8 xs = true) (hy : AV.dats 8 ys = true) (q : Q (.bool (!AV.beqs xs ys)) st) : CMP w b lev .NotEq (.obj a) (.obj c) st Q := by
  rintro A s vs R I (_ | ⟨⟨⟩, _ | ⟨⟨⟩, ⟨⟩⟩⟩) Qc P
  obtain ⟨as, ra⟩ := reads_list I ea hx
  obtain ⟨bs, rb⟩ := reads_list I ec hy
  exact SeqAt.compareNe_reads ra rb (lay_list hx).1 (lay_list hy).1 (room_eq R (by have := (lay_list hx).2; omega)) (P.here I (.bool _) q _)
theorem CMP_in {xs : List AV} (hx : x.dat 8 = true) (hy : AV.dats 8 xs = true) (q : Q (.bool ((AV.pys xs).any fun y => PyData.eqv y x.py)) st) : CMP w b lev .In x (.tup xs) st Q := by
  rintro A s vs R I (_ | ⟨rx, _ | ⟨ry, ⟨⟩⟩⟩) Qc P
  obtain ⟨as, ra⟩ := rx.reads hx
  obtain ⟨bs, rb⟩ := ry.reads (n := 9) hy
  refine SeqAt.in_tuple_reads (by simpa [AV.py] using rb) ra (AV.lays hy).1 (AV.lay hx).1 ?_ (P.here I (.bool _) q _)
  have := R.un
  have := cLine_is
  have := (AV.lays hy).2
  omega
noncomputable def AV.isNone : AV → Bool
  | .none => true
  | _ => false
theorem CMP_is_none (hv : ∀ v, x ≠ .val v) (q : Q (.bool x.isNone) st) : CMP w b lev .Is x .none st Q := by
  rintro A s vs R I (_ | ⟨rx, _ | ⟨⟨⟩, ⟨⟩⟩⟩) Qc P
  refine is_none ?_
  have e : ∀ v, Rep s.heap v x → (v == Value.none) = x.isNone := by
    intro v r; cases r <;> first | rfl | exact absurd rfl (hv _)

  exact (congrArg (fun c => Qc (.bool c) s) (e _ rx)).mpr (P.here I (.bool _) q _)
theorem CMP_isnt_none (hv : ∀ v, x ≠ .val v) (q : Q (.bool (!x.isNone)) st) : CMP w b lev .IsNot x .none st Q := by
  rintro A s vs R I (_ | ⟨rx, _ | ⟨⟨⟩, ⟨⟩⟩⟩) Qc P
  refine isNot_none ?_
  have e : ∀ v, Rep s.heap v x → (v == Value.none) = x.isNone := by
    intro v r; cases r <;> first | rfl | exact absurd rfl (hv _)

  exact (congrArg (fun c => Qc (.bool (!c)) s) (e _ rx)).mpr (P.here I (.bool _) q _)
end
end

/-! F4 -/
section

variable {w : World} {b : Heap} {lev : Nat} {sc : Scope} {ρ : Ren} {st : St}

/-! ## a list that changes -/
theorem keepT_same {h h' : Heap} (I : Inv b st h) {a : Addr} {o : AObj} (ea : st a = some o) (S : Heap.SameBut a h h') : KeepT h h' := fun c o m e => by
  refine (S.2 c ?_).trans e
  rintro rfl
  exact (I.rep _ _ ea).notImm m e
theorem step_set {h h' : Heap} (I : Inv b st h) {a : Addr} {o x : AObj} (ea : st a = some o) (S : Heap.SameBut a h h') (r : RepO h' a x) : Step st h (upd st a x) h' ∧ Inv b (upd st a x) h' := by
  have k := keepT_same I ea S
  have ne : ∀ c, st c = none → c ≠ a := fun c e q => by subst q; rw [ea] at e; cases e
  refine ⟨fun c o' e g => ⟨(S.2 c (ne c g)).trans e, by rw [upd_ne (ne c g)]; exact g⟩, ⟨fun c y e => ?_, fun c o' e => ?_, fun c o' e => ?_⟩⟩
  · by_cases hc : c = a
    · subst hc; rw [upd_self] at e; cases e; exact r
    · rw [upd_ne hc] at e
      exact (I.rep c y e).keep k fun o' e' => (S.2 c hc).trans e'
  · exact (S.2 c (ne c (I.off c o' e))).trans (I.base c o' e)
  · rw [upd_ne (ne c (I.off c o' e))]; exact I.off c o' e

/-! ## items -/
noncomputable abbrev GETS (w : World) (b : Heap) (lev : Nat) (value slice : Expr) (x y : AV) (st : St) (Q : AV → St → Prop) : Prop := OP w b lev [x, y] (fun vs => subscriptTail value slice (vs.getD 0 .none) (vs.getD 1 .none)) st Q
theorem EV_Sub {value slice : Expr} {pos : Pos} {Q : AV → St → Prop} (h : EV w b lev sc ρ value st fun x st₁ => EV w b lev sc ρ slice st₁ fun y st₂ => GETS w b lev value slice x y st₂ Q) : EV w b lev sc ρ (.Subscript value slice pos) st Q := by
  intro f A s R F I O Qc P
  refine Subscript_ (h f A s R F I O _ fun v av st₁ h₁ tk₁ S₁ I₁ r₁ q₁ => ?_)
  refine q₁ f A _ R (F.step I O S₁) I₁ (F.off O S₁) _ fun v₂ av₂ st₂ h₂ tk₂ S₂ I₂ r₂ q₂ => ?_
  refine q₂ A _ [v, v₂] R I₂ (.cons (r₁.keep (S₂.keepT I₁)) (.cons r₂ .nil)) _ fun v₃ av₃ st₃ h₃ tk₃ S₃ I₃ r₃ q₃ => ?_
  exact P v₃ av₃ st₃ h₃ tk₃ ((S₁.trans S₂).trans S₃) I₃ r₃ q₃
theorem GETS_tup {value slice : Expr} {xs : List AV} {k : Int} {j : Nat} {x : AV} {Q : AV → St → Prop} (hj : seqIndex? k xs.length = some j) (hx : xs[j]? = some x) (q : Q x st)
    (hlo : -(2 ^ 63) ≤ k := by decide) (hhi : k < 2 ^ 63 := by decide)
    (hs : ∀ o i, subscripted slice false o i = operate [o, i] (getItem o i) := by intro _ _; with_unfolding_all rfl) : GETS w b lev value slice (.tup xs) (.int k) st Q := by
  rintro A s vs R I (_ | ⟨rx, _ | ⟨⟨⟩, ⟨⟩⟩⟩) Qc P
  cases rx with
  | tup e r =>
    obtain ⟨v, hv, rv⟩ := r.get hx
    exact item_tupleT ⟨_, e, rfl, _, rfl⟩ hlo hhi (by rw [r.length]; exact hj) hv (P.here I rv q _) (hs _ _)
theorem GETS_list {value slice : Expr} {a : Addr} {xs : List AV} {k : Int} {x : AV} {Q : AV → St → Prop} (ea : st a = some (.list xs)) (h0 : 0 ≤ k) (hx : xs[k.toNat]? = some x) (q : Q x st)
    (hhi : k < 2 ^ 63 := by decide)
    (hs : ∀ o i, subscripted slice false o i = operate [o, i] (getItem o i) := by intro _ _; with_unfolding_all rfl) : GETS w b lev value slice (.obj a) (.int k) st Q := by
  rintro A s vs R I (_ | ⟨⟨⟩, _ | ⟨⟨⟩, ⟨⟩⟩⟩) Qc P
  obtain ⟨us, n, e, r⟩ := I.rep _ _ ea
  obtain ⟨v, hv, rv⟩ := r.get hx
  have hl : s.heap.IsList a us.toArray := ⟨_, e, rfl, _, rfl⟩
  exact tail_any hl.typeIs slot_list_getitem.lookup (wpAny_getItem_list hl h0 hhi (by simpa using hv) (P.here I rv q _)) (hs _ _)
theorem GETS_last {value slice : Expr} {a : Addr} {xs : List AV} {x : AV} {Q : AV → St → Prop} (ea : st a = some (.list (xs ++ [x]))) (q : Q x st)
    (hs : ∀ o i, subscripted slice false o i = operate [o, i] (getItem o i) := by intro _ _; with_unfolding_all rfl) : GETS w b lev value slice (.obj a) (.int (-1)) st Q := by
  rintro A s vs R I (_ | ⟨⟨⟩, _ | ⟨⟨⟩, ⟨⟩⟩⟩) Qc P
  obtain ⟨us, n, e, r⟩ := I.rep _ _ ea
  have hl : s.heap.IsList a us.toArray := ⟨_, e, rfl, _, rfl⟩
  have hlen := r.length
  simp only [List.length_append, List.length_singleton] at hlen
  obtain ⟨v, hv, rv⟩ := r.get (k := xs.length) (y := x) (by simp)
  refine tail_any hl.typeIs slot_list_getitem.lookup (wpAny_getItem_list_neg (x := v) hl (by decide) (by simp; omega) (by decide) ?_ (P.here I rv q _)) (hs _ _)
  have e1 : ((-1 : Int) + (us.toArray.size : Int)).toNat = xs.length := by simp; omega
  rw [e1]; simpa using hv

/-- lists' slices -/
inductive SlPart (w : World) (b : Heap) (lev : Nat) (sc : Scope) (ρ : Ren) (st : St) : Option Expr → Option Int → Prop
  | none : SlPart w b lev sc ρ st none none
  | some {e : Expr} {i : Int} : EV w b lev sc ρ e st (fun x st' => x = .int i ∧ st' = st) → SlPart w b lev sc ρ st (some e) (some i)
theorem evalPart_of {e : Option Expr} {i : Option Int} (p : SlPart w b lev sc ρ st e i) {f : FId} {A : Around} {s : Shared} (R : RoomA lev A) (F : FrOK f sc s.heap ρ) (I : Inv b st s.heap) (O : Off b f st) {Qc : Value → Shared → Prop}
    (P : ∀ v h' tk', IsPart v i → Step st s.heap st h' → Inv b st h' → Qc v { s with heap := h', toks := tk' }) : wpAny (model Pg w) A (evalPart e (f.env sc)) Qc NoE s := by
  cases p with
  | none => exact wpAny_pure (P .none s.heap s.toks .none Step.refl I)
  | some h =>
    refine h f A s R F I O Qc fun v av st' h' tk' S I' r q => ?_
    obtain ⟨rfl, rfl⟩ := q
    cases r
    exact P _ h' tk' (.int _ _) S I'
theorem EV_SliceList {value : Expr} {lo hi : Option Expr} {p pos : Pos} {Q : AV → St → Prop}
    (h : EV w b lev sc ρ value st fun x st₁ => ∃ a xs ilo ihi ys, x = .obj a ∧ st₁ a = some (.list xs) ∧ SlPart w b lev sc ρ st₁ lo ilo ∧ SlPart w b lev sc ρ st₁ hi ihi ∧ xs.length ≤ sizeLine ∧
      (∀ us : List Value, ∀ hh, RepAll hh us xs → RepAll hh (slicePick us.toArray ilo ihi none).toList ys) ∧ ∀ c, st₁ c = none → Q (.obj c) (upd st₁ c (.list ys))) : EV w b lev sc ρ (.Subscript value (.Slice lo hi none p) pos) st Q := by
  intro f A s R F I O Qc P
  refine Subscript_ (h f A s R F I O _ fun v av st₁ h₁ tk₁ S₁ I₁ r₁ q₁ => ?_)
  obtain ⟨a, xs, ilo, ihi, ys, rfl, ea, plo, phi, hz, hy, hq⟩ := q₁
  cases r₁
  have F₁ := F.step I O S₁
  have O₁ := F.off O S₁
  refine wpAny_Slice (evalPart_of plo R F₁ I₁ O₁ fun vl h₂ tk₂ pl S₂ I₂ => ?_)
  refine evalPart_of phi R (F₁.step I₁ O₁ S₂) I₂ O₁ fun vu h₃ tk₃ pu S₃ I₃ => wpAny_pure ?_
  obtain ⟨S₄, I₄⟩ := step_push I₃ { cls := .type "slice", data := .fields #[vl, vu, .none] }
  obtain ⟨us, n, e, r⟩ := I₃.rep _ _ ea
  have hl : (h₃.push { cls := .type "slice", data := .fields #[vl, vu, .none] }).IsList a us.toArray := ⟨_, Heap.get?_push_of_some _ e, rfl, _, rfl⟩
  refine tail_any hl.typeIs slot_list_getitem.lookup (wpAny_getItem_list_slice hl (Heap.IsSliceOf.new ..) pl pu .none (by simp) ?_ (by rw [List.size_toArray, r.length]; exact hz)) rfl
  have k := (S₄.trans (step_push I₄ (lstO (slicePick us.toArray ilo ihi none).toList 0)).1).keepT I₃
  obtain ⟨S₅, I₅, hn⟩ := step_new I₄ (lstO (slicePick us.toArray ilo ihi none).toList 0) (.list ys) ⟨_, 0, Heap.get?_push_size _ rfl, (hy us _ r).keep k⟩
  simp only [lstO, Array.toArray_toList] at S₅ I₅
  exact P _ _ _ _ tk₃ ((((S₁.trans S₂).trans S₃).trans S₄).trans S₅) I₅ (.obj _) (hq _ hn)
theorem EV_RevList {value : Expr} {k : Nat} {p₁ p₂ p pos : Pos} {Q : AV → St → Prop}
    (h : EV w b lev sc ρ value st fun x st₁ => ∃ a xs, x = .obj a ∧ st₁ a = some (.list xs) ∧ xs.length ≤ sizeLine ∧ ∀ c, st₁ c = none → Q (.obj c) (upd st₁ c (.list xs.reverse))) :
    EV w b lev sc ρ (.Subscript value (.Slice none none (some (.UnaryOp .USub (.Constant (.int 1) k p₁) p₂)) p) pos) st Q := by
  intro f A s R F I O Qc P
  refine Subscript_ (h f A s R F I O _ fun v av st₁ h₁ tk₁ S₁ I₁ r₁ q₁ => ?_)
  obtain ⟨a, xs, rfl, ea, hz, hq⟩ := q₁
  cases r₁
  refine wpAny_Slice (wpAny_pure (wpAny_pure (wpAny_UnaryOp (wpAny_Constant_int (neg_int ?_)))))
  generalize hT : (Value.int (-1) _) = vst
  obtain ⟨S₄, I₄⟩ := step_push I₁ { cls := .type "slice", data := .fields #[.none, .none, vst] }
  obtain ⟨us, n, e, r⟩ := I₁.rep _ _ ea
  have hl : (h₁.push { cls := .type "slice", data := .fields #[.none, .none, vst] }).IsList a us.toArray := ⟨_, Heap.get?_push_of_some _ e, rfl, _, rfl⟩
  refine tail_any hl.typeIs slot_list_getitem.lookup (wpAny_getItem_list_slice (st := some (-1)) hl (Heap.IsSliceOf.new ..) .none .none (by rw [← hT]; exact .int _ _) (by simp) ?_ (by rw [List.size_toArray, r.length]; exact hz)) rfl
  have hr : (slicePick us.toArray none none (some (-1))).toList = us.reverse := by rw [krv_pick]
  have k := (S₄.trans (step_push I₄ (lstO (slicePick us.toArray none none (some (-1))).toList 0)).1).keepT I₁
  obtain ⟨S₅, I₅, hn⟩ := step_new I₄ (lstO (slicePick us.toArray none none (some (-1))).toList 0) (.list xs.reverse) ⟨_, 0, Heap.get?_push_size _ rfl, by rw [hr]; exact r.reverse.keep (by rw [hr] at k; exact k)⟩
  simp only [lstO, Array.toArray_toList] at S₅ I₅
  exact P _ _ _ _ _ ((S₁.trans S₄).trans S₅) I₅ (.obj _) (hq _ hn)

/-! ## calls by a name -/
theorem EV_Call {func e : Expr} {es : List Expr} {pos : Pos} {Q : AV → St → Prop}
    (G : Gd w b) (h : EV w b lev sc ρ func st fun x st₁ => ∃ v, x = .val v ∧ keepIn (hd.heap_1 w.params) v = true ∧ IJ w b lev sc ρ pos (e :: es) st₁ fun xs st₂ => CallOk w b lev v xs st₂ Q)
    (he : ∀ env, eval (.Call func (e :: es) [] pos) env = (do callWith pos (← eval func env) [] (backTo pos (starEach (e :: es) env)) (backToKw pos (keywordEach [] env))) := by intro _; with_unfolding_all rfl)
    (h1 : ∀ env, starEach (e :: es) env = (false, eval e env) :: starEach es env := by intro _; with_unfolding_all rfl) (hp : ∀ env, (backTo pos (starEach es env)).any (·.1) = false := by intro _; with_unfolding_all rfl) : EV w b lev sc ρ (.Call func (e :: es) [] pos) st Q := by
  intro f A s R F I O Qc P
  refine Call_ (h f A s R F I O _ fun v av st₁ h₁ tk₁ S₁ I₁ r₁ q₁ => ?_) (he _)
  obtain ⟨v', rfl, hk, hi⟩ := q₁
  cases r₁
  refine callWith_K (I₁.inK G) hk (hi f A _ R (F.step I O S₁) I₁ (F.off O S₁) _ fun vs xs st₂ h₂ tk₂ S₂ I₂ r₂ q₂ => ?_) (h1 _) (hp _)
  refine ⟨I₂.inK G, q₂ A _ vs R I₂ r₂ _ fun v₃ av₃ st₃ h₃ tk₃ S₃ I₃ r₃ q₃ => ?_⟩
  exact P v₃ av₃ st₃ h₃ tk₃ ((S₁.trans S₂).trans S₃) I₃ r₃ q₃
theorem EV_Call0 {func : Expr} {pos : Pos} {Q : AV → St → Prop}
    (G : Gd w b) (h : EV w b lev sc ρ func st fun x st₁ => ∃ v, x = .val v ∧ keepIn (hd.heap_1 w.params) v = true ∧ CallOk w b lev v [] st₁ Q)
    (he : ∀ env, eval (.Call func [] [] pos) env = (do callWith pos (← eval func env) [] (backTo pos (starEach [] env)) (backToKw pos (keywordEach [] env))) := by intro _; with_unfolding_all rfl) : EV w b lev sc ρ (.Call func [] [] pos) st Q := by
  intro f A s R F I O Qc P
  refine Call_ (h f A s R F I O _ fun v av st₁ h₁ tk₁ S₁ I₁ r₁ q₁ => ?_) (he _)
  obtain ⟨v', rfl, hk, hc⟩ := q₁
  cases r₁
  refine callWith_K0 (I₁.inK G) hk (hc A _ [] R I₁ .nil _ fun v₃ av₃ st₃ h₃ tk₃ S₃ I₃ r₃ q₃ => ?_)
  exact P v₃ av₃ st₃ h₃ tk₃ (S₁.trans S₃) I₃ r₃ q₃
theorem EV_CallB {func e : Expr} {es : List Expr} {pos : Pos} {Q : AV → St → Prop}
    (h : EV w b lev sc ρ func st fun x st₁ => ∃ id, x = .val (.builtin id) ∧ IJ w b lev sc ρ pos (e :: es) st₁ fun xs st₂ => CallOk w b lev (.builtin id) xs st₂ Q)
    (he : ∀ env, eval (.Call func (e :: es) [] pos) env = (do callWith pos (← eval func env) [] (backTo pos (starEach (e :: es) env)) (backToKw pos (keywordEach [] env))) := by intro _; with_unfolding_all rfl)
    (h1 : ∀ env, starEach (e :: es) env = (false, eval e env) :: starEach es env := by intro _; with_unfolding_all rfl) (hp : ∀ env, (backTo pos (starEach es env)).any (·.1) = false := by intro _; with_unfolding_all rfl) : EV w b lev sc ρ (.Call func (e :: es) [] pos) st Q := by
  intro f A s R F I O Qc P
  refine Call_ (h f A s R F I O _ fun v av st₁ h₁ tk₁ S₁ I₁ r₁ q₁ => ?_) (he _)
  obtain ⟨id, rfl, hi⟩ := q₁
  cases r₁
  refine callWith_builtin1 (hi f A _ R (F.step I O S₁) I₁ (F.off O S₁) _ fun vs xs st₂ h₂ tk₂ S₂ I₂ r₂ q₂ => ?_) (h1 _) (hp _)
  refine q₂ A _ vs R I₂ r₂ _ fun v₃ av₃ st₃ h₃ tk₃ S₃ I₃ r₃ q₃ => ?_
  exact P v₃ av₃ st₃ h₃ tk₃ ((S₁.trans S₂).trans S₃) I₃ r₃ q₃
theorem EV_CallT {func e : Expr} {es : List Expr} {pos : Pos} {Q : AV → St → Prop}
    (h : EV w b lev sc ρ func st fun x st₁ => ∃ T, x = .val (.type T) ∧ IJ w b lev sc ρ pos (e :: es) st₁ fun xs st₂ => CallOk w b lev (.type T) xs st₂ Q)
    (he : ∀ env, eval (.Call func (e :: es) [] pos) env = (do callWith pos (← eval func env) [] (backTo pos (starEach (e :: es) env)) (backToKw pos (keywordEach [] env))) := by intro _; with_unfolding_all rfl)
    (h1 : ∀ env, starEach (e :: es) env = (false, eval e env) :: starEach es env := by intro _; with_unfolding_all rfl) (hp : ∀ env, (backTo pos (starEach es env)).any (·.1) = false := by intro _; with_unfolding_all rfl) : EV w b lev sc ρ (.Call func (e :: es) [] pos) st Q := by
  intro f A s R F I O Qc P
  refine Call_ (h f A s R F I O _ fun v av st₁ h₁ tk₁ S₁ I₁ r₁ q₁ => ?_) (he _)
  obtain ⟨id, rfl, hi⟩ := q₁
  cases r₁
  refine PyProof.Rows.callWith_type1 (hi f A _ R (F.step I O S₁) I₁ (F.off O S₁) _ fun vs xs st₂ h₂ tk₂ S₂ I₂ r₂ q₂ => ?_) (h1 _) (hp _)
  refine q₂ A _ vs R I₂ r₂ _ fun v₃ av₃ st₃ h₃ tk₃ S₃ I₃ r₃ q₃ => ?_
  exact P v₃ av₃ st₃ h₃ tk₃ ((S₁.trans S₂).trans S₃) I₃ r₃ q₃
end

/-! F5 -/
section

variable {w : World} {b : Heap} {lev : Nat} {sc : Scope} {ρ : Ren} {st : St}

/-- a name is bound -/
theorem store_ {f : FId} {A : Around} {s : Shared} {x : Str} {v : Value} {av : AV} (F : FrOK f sc s.heap ρ) (I : Inv b st s.heap) (O : Off b f st) (r : Rep s.heap v av) (hk : sc.names.lookup x = some .local ∨ sc.names.lookup x = some .cell) {Qc : Unit → Shared → Prop}
    (P : ∀ h' tk', StepF f st s.heap st h' → FrOK f sc h' (ρ.set x av) → Inv b st h' → KeepT s.heap h' → Qc () { s with heap := h', toks := tk' }) : wpAny (model Pg w) A (storeName (f.env sc) x v) Qc NoE s := by
  have hclo : ∀ cl cd, (ρ.set x av) "<cl>" = some (.cells cl cd) → f.cl = cl ∧ f.cd = cd := fun cl cd e => by
    unfold Ren.set at e
    by_cases hy : ("<cl>" : Str) = x
    · rw [if_pos hy] at e; cases e; cases r
    · rw [if_neg hy] at e; exact F.clo cl cd e
  have key : ∀ a h', (a = f.L ∨ ∃ x, f.cl.lookup x = some a) → (∀ o, Imm o → s.heap.get? a ≠ some o) → Heap.SameBut a s.heap h' → StepF f st s.heap st h' ∧ Inv b st h' ∧ KeepT s.heap h' := by
    intro a h' ha hnt hs
    have k : KeepT s.heap h' := fun c o m e => (hs.2 c (fun q => by subst q; exact hnt _ m e)).trans e
    have ta : st a = none := by rcases ha with rfl | ⟨y, hp⟩; exact O.L; exact O.C y _ hp
    have tb : b.get? a = none := by rcases ha with rfl | ⟨y, hp⟩; exact O.bL; exact O.bC y _ hp
    refine ⟨fun c o e g n => ⟨(hs.2 c fun q => n (by subst q; exact ha)).trans e, g⟩, ⟨fun c o e => (I.rep c o e).keep k fun o' e' => (hs.2 c fun q => by subst q; rw [ta] at e; cases e).trans e', fun c o e => (hs.2 c fun q => by subst q; rw [tb] at e; cases e).trans (I.base c o e), I.off⟩, k⟩
  obtain ⟨m, hn, hm⟩ := F.ns
  have hLt : ∀ o, Imm o → s.heap.get? f.L ≠ some o := fun o m e => F.notImm m e (.inl rfl)
  have hLc : ∀ c v, s.heap.IsCell c v → c ≠ f.L := by
    rintro c v ⟨o, ho, hd⟩ rfl
    obtain ⟨o', _, _, ho', hd', _⟩ := hn
    rw [ho] at ho'; cases ho'; rw [hd] at hd'; cases hd'
  rcases hk with hl | hl
  · refine wpAny_storeName_local (env := f.env sc) hl hn (fun h' hn' hs => ?_) (by show (sc.kind == .class || (sc.kind == .module && f.L != mainGlobals)) = false; rw [F.fn]; rfl)
    obtain ⟨S, J, k⟩ := key f.L h' (.inl rfl) hLt hs
    refine P h' _ S ⟨F.fn, ⟨_, hn', fun y a e l => ?_⟩, fun y a e l => ?_, F.all, fun y c hp => ?_, F.apart, hclo⟩ J k
    · unfold Ren.set at e
      by_cases hy : y = x
      · rw [if_pos hy] at e ⊢; cases e; exact ⟨v, rfl, r.keep k⟩
      · rw [if_neg hy] at e ⊢
        obtain ⟨u, a1, a2⟩ := hm y a e l
        exact ⟨u, a1, a2.keep k⟩
    · unfold Ren.set at e
      have hy : y ≠ x := fun q => by rw [q, hl] at l; rcases l with l | l <;> cases l
      rw [if_neg hy] at e
      obtain ⟨c, u, a1, a2, a3⟩ := F.cel y a e l
      exact ⟨c, u, a1, a2.sameBut hs (hLc _ _ a2), a3.keep k⟩
    · obtain ⟨u, hu⟩ := F.alive y c hp
      exact ⟨u, hu.sameBut hs (hLc _ _ hu)⟩
  · obtain ⟨c, hc⟩ := F.all x hl
    obtain ⟨u, hu⟩ := F.alive _ _ hc
    refine wpAny_storeName_cell (env := f.env sc) F.fn hl hc hu fun h' hv hs => ?_
    have hct : ∀ o, Imm o → s.heap.get? c ≠ some o := fun o m e => F.notImm m e (.inr ⟨_, hc⟩)
    obtain ⟨S, J, k⟩ := key c h' (.inr ⟨_, hc⟩) hct hs
    refine P h' _ S ⟨F.fn, ⟨m, hn.sameBut hs (Ne.symm (hLc _ _ hu)), fun y a e l => ?_⟩, fun y a e l => ?_, F.all, fun y c' hp => ?_, F.apart, hclo⟩ J k
    · unfold Ren.set at e
      have hy : y ≠ x := fun q => by rw [q, hl] at l; cases l
      rw [if_neg hy] at e
      obtain ⟨u, a1, a2⟩ := hm y a e l
      exact ⟨u, a1, a2.keep k⟩
    · unfold Ren.set at e
      by_cases hy : y = x
      · rw [if_pos hy] at e; cases e; subst hy; exact ⟨c, v, hc, hv, r.keep k⟩
      · rw [if_neg hy] at e
        obtain ⟨c', u', a1, a2, a3⟩ := F.cel y a e l
        refine ⟨c', u', a1, a2.sameBut hs (fun q => ?_), a3.keep k⟩
        subst q
        exact hy (F.apart _ _ _ a1 hc)
    · obtain ⟨u', hu'⟩ := F.alive y c' hp
      by_cases hpc : c' = c
      · exact ⟨_, hpc ▸ hv⟩
      · exact ⟨u', hu'.sameBut hs hpc⟩

noncomputable def isSt (sc : Scope) (x : Str) : Bool := match sc.names.lookup x with | some .local | some .cell => true | _ => false
theorem isSt_of {x : Str} (h : isSt sc x = true) : sc.names.lookup x = some .local ∨ sc.names.lookup x = some .cell := by
  unfold isSt at h
  split at h
  · rename_i e; exact .inl e
  · rename_i e; exact .inr e
  · cases h

theorem EX_nil {Q : AFlow → Ren → St → Prop} (q : Q .next ρ st) : EX w b lev sc ρ [] st Q :=
  fun _ _ s _ F I O _ P => wpAny_execs_nil (P .next .next ρ st s.heap s.toks Step.refl.toF F I O .next q)
theorem EX_cons {c : Stmt} {cs : List Stmt} {Q : AFlow → Ren → St → Prop} (h : ES w b lev sc ρ c st fun fl ρ₁ st₁ => match fl with | .next => EX w b lev sc ρ₁ cs st₁ Q | fl => Q fl ρ₁ st₁) : EX w b lev sc ρ (c :: cs) st Q := by
  intro f A s R F I O Qc P
  refine wpAny_execs_cons (h f A s R F I O _ fun fl afl ρ₁ st₁ h₁ tk₁ S₁ F₁ I₁ O₁ r₁ q₁ => ?_)
  cases r₁ with
  | next => exact q₁ f A _ R F₁ I₁ O₁ _ fun fl afl ρ₂ st₂ h₂ tk₂ S₂ F₂ I₂ O₂ r₂ q₂ => P fl afl ρ₂ st₂ h₂ tk₂ (S₁.trans S₂) F₂ I₂ O₂ r₂ q₂
  | brk => exact P _ _ _ _ _ _ S₁ F₁ I₁ O₁ .brk q₁
  | cont => exact P _ _ _ _ _ _ S₁ F₁ I₁ O₁ .cont q₁
  | ret r => exact P _ _ _ _ _ _ S₁ F₁ I₁ O₁ (.ret r) q₁

theorem ES_Expr {e : Expr} {pos : Pos} {Q : AFlow → Ren → St → Prop} (h : EV w b lev sc ρ e st fun _ st₁ => Q .next ρ st₁)
    (hi : ∀ f : FId, interactive (f.env sc) = false := by intro _; with_unfolding_all rfl) (hs : ∀ f : FId, swapsWith e none pos.line (f.env sc) = pure false := by intro _; with_unfolding_all rfl) : ES w b lev sc ρ (.Expr e pos) st Q := by
  intro f A s R F I O Qc P
  refine wpAny_Expr_any (h f A s R F I O _ fun v av st₁ h₁ tk₁ S₁ I₁ r₁ q₁ => ?_) (hi f) (hs f)
  exact P .next .next ρ st₁ h₁ tk₁ S₁.toF (F.step I O S₁) I₁ (F.off O S₁) .next q₁

theorem ES_Ret {e : Expr} {pos : Pos} {Q : AFlow → Ren → St → Prop} (h : EV w b lev sc ρ e st fun x st₁ => Q (.ret x) ρ st₁) : ES w b lev sc ρ (.Return (some e) pos) st Q := by
  intro f A s R F I O Qc P
  refine wpAny_Return_some (h f A s R F I O _ fun v av st₁ h₁ tk₁ S₁ I₁ r₁ q₁ => ?_)
  exact P (.ret v) (.ret av) ρ st₁ h₁ tk₁ S₁.toF (F.step I O S₁) I₁ (F.off O S₁) (.ret r₁) q₁
theorem ES_Ret0 {pos : Pos} {Q : AFlow → Ren → St → Prop} (q : Q (.ret .none) ρ st) : ES w b lev sc ρ (.Return none pos) st Q :=
  fun _ _ s _ F I O _ P => wpAny_Return_none (P (.ret .none) (.ret .none) ρ st s.heap s.toks Step.refl.toF F I O (.ret .none) q)

theorem ES_Assign {x : Str} {px pos : Pos} {e : Expr} {Q : AFlow → Ren → St → Prop} (h : EV w b lev sc ρ e st fun v st₁ => Q .next (ρ.set x v) st₁)
    (hk : isSt sc x = true := by decide +kernel) (hs : ∀ f : FId, swapsWith e (some (.Name x px)) pos.line (f.env sc) = pure false := by intro _; with_unfolding_all rfl) : ES w b lev sc ρ (.Assign [.Name x px] e pos) st Q := by
  intro f A s R F I O Qc P
  refine wpAny_Assign_Name (h f A s R F I O _ fun v av st₁ h₁ tk₁ S₁ I₁ r₁ q₁ => ?_) (hs f)
  refine store_ (F.step I O S₁) I₁ (F.off O S₁) r₁ (isSt_of hk) fun h₂ tk₂ S₂ F₂ I₂ _ => ?_
  exact P .next .next _ st₁ h₂ tk₂ (S₁.toF.trans S₂) F₂ I₂ (F.off O S₁) .next q₁

theorem ES_Aug {x : Str} {px pos : Pos} {op : Operator} {e : Expr} {u : AV} {Q : AFlow → Ren → St → Prop} (hx : ρ x = some u)
    (h : EV w b lev sc ρ e st fun v st₁ => OP w b lev [u, v] (fun vs => inplaceOp op (vs.getD 0 .none) (vs.getD 1 .none)) st₁ fun r st₂ => Q .next (ρ.set x r) st₂)
    (hl : sc.names.lookup x = some .local := by decide +kernel) : ES w b lev sc ρ (.AugAssign (.Name x px) op e pos) st Q := by
  intro f A s R F I O Qc P
  obtain ⟨m, hn, hm⟩ := F.ns
  obtain ⟨v₀, e₀, r₀⟩ := hm x u hx hl
  refine wpAny_AugAssign_Name (wpAny_loadName_local (env := f.env sc) F.fn hl hn e₀ ?_)
  refine h f A s R F I O _ fun v av st₁ h₁ tk₁ S₁ I₁ r₁ q₁ => ?_
  refine q₁ A _ [v₀, v] R I₁ (.cons (r₀.keep (S₁.keepT I)) (.cons r₁ .nil)) _ fun v₂ av₂ st₂ h₂ tk₂ S₂ I₂ r₂ q₂ => ?_
  refine store_ (F.step I O (S₁.trans S₂)) I₂ (F.off O (S₁.trans S₂)) r₂ (.inl hl) fun h₃ tk₃ S₃ F₃ I₃ _ => ?_
  exact P .next .next _ st₂ h₃ tk₃ ((S₁.trans S₂).toF.trans S₃) F₃ I₃ (F.off O (S₁.trans S₂)) .next q₂
theorem AUG_add {x y : Int} {Q : AV → St → Prop} (q : Q (.int (x + y)) st) : OP w b lev [.int x, .int y] (fun vs => inplaceOp .Add (vs.getD 0 .none) (vs.getD 1 .none)) st Q := by
  rintro A s vs R I (_ | ⟨⟨⟩, _ | ⟨⟨⟩, ⟨⟩⟩⟩) Qc P
  exact iadd_int (P.here I (.int _ _) q _)

theorem ES_If {t : Expr} {cs ds : List Stmt} {pos : Pos} {Q : AFlow → Ren → St → Prop} (h : TJ w b lev sc ρ t st fun c st₁ => if c then EX w b lev sc ρ cs st₁ Q else EX w b lev sc ρ ds st₁ Q) : ES w b lev sc ρ (.If t cs ds pos) st Q := by
  intro f A s R F I O Qc P
  refine wpAny_If (h f A s R F I O _ fun c st₁ h₁ tk₁ S₁ I₁ q₁ => ?_)
  cases c with
  | true =>
    simp only [if_true] at q₁ ⊢
    exact q₁ f A _ R (F.step I O S₁) I₁ (F.off O S₁) _ fun fl afl ρ₃ st₃ h₃ tk₃ S₃ F₃ I₃ O₃ r₃ q₃ => P fl afl ρ₃ st₃ h₃ tk₃ (S₁.toF.trans S₃) F₃ I₃ O₃ r₃ q₃
  | false =>
    simp only [Bool.false_eq_true, if_false] at q₁ ⊢
    exact q₁ f A _ R (F.step I O S₁) I₁ (F.off O S₁) _ fun fl afl ρ₃ st₃ h₃ tk₃ S₃ F₃ I₃ O₃ r₃ q₃ => P fl afl ρ₃ st₃ h₃ tk₃ (S₁.toF.trans S₃) F₃ I₃ O₃ r₃ q₃

/-! ## several names at once -/
noncomputable def Ren.sets (ρ : Ren) : List (Str × AV) → Ren
  | [] => ρ
  | (x, v) :: r => Ren.sets (ρ.set x v) r
theorem storeAll {f : FId} {A : Around} (ts : List (Value → Sem Unit)) (names : List Str) (hts : ts.length = names.length)
    (ht : ∀ (k : Nat) (t : Value → Sem Unit) (x : Str), ts[k]? = some t → names[k]? = some x → ∀ (v : Value) (Q : Unit → Shared → Prop) (s : Shared), wpAny (model Pg w) A (storeName (f.env sc) x v) Q NoE s → wpAny (model Pg w) A (t v) Q NoE s)
    (hk : names.all (isSt sc) = true) : ∀ (ρ : Ren) (s : Shared) (vs : List Value) (xs : List AV), FrOK f sc s.heap ρ → Inv b st s.heap → Off b f st → RepAll s.heap vs xs → vs.length = names.length → ∀ Qc : Unit → Shared → Prop,
      (∀ h' tk', StepF f st s.heap st h' → FrOK f sc h' (ρ.sets (names.zip xs)) → Inv b st h' → Qc () { s with heap := h', toks := tk' }) → wpAny (model Pg w) A (assignInOrder ts vs) Qc NoE s := by
  induction names generalizing ts with
  | nil =>
    intro ρ s vs xs F I O r hl Qc P
    have : ts = [] := by simpa using hts
    subst this
    exact assignInOrder_nil (P s.heap s.toks Step.refl.toF F I)
  | cons x names ih =>
    intro ρ s vs xs F I O r hl Qc P
    cases ts with
    | nil => cases hts
    | cons t ts =>
      cases r with
      | nil => cases hl
      | cons r₀ r =>
        rw [List.all_cons, Bool.and_eq_true] at hk
        refine assignInOrder_cons (ht 0 t x rfl rfl _ _ _ (store_ F I O r₀ (isSt_of hk.1) fun h₁ tk₁ S₁ F₁ I₁ k₁ => ?_))
        refine ih ts (by simpa using hts) (fun k t x h1 h2 => ht (k + 1) t x (by simpa using h1) (by simpa using h2)) hk.2 _ _ _ _ F₁ I₁ O (r.keep k₁) (by simpa using hl) _ fun h₂ tk₂ S₂ F₂ I₂ => ?_
        exact P h₂ tk₂ (S₁.trans S₂) F₂ I₂

theorem ext_step {h h' : Heap} (I : Inv b st h) (he : Heap.ExtBut h.objs.size h h') : Step st h st h' ∧ Inv b st h' := by
  have k : ∀ a o, h.get? a = some o → h'.get? a = some o := fun a o e => he a o (Nat.ne_of_lt (Heap.lt_size e)) e
  exact ⟨fun a o e g => ⟨k a o e, g⟩, ⟨fun a o e => (I.rep a o e).keep (fun _ _ _ e => k _ _ e) (fun o e => k _ _ e), fun a o e => k _ _ (I.base a o e), I.off⟩⟩

/-- a, b, .. = a tuple -/
theorem ES_Unpack {elts : List Expr} {k : Nat} {tpos pos : Pos} {e : Expr} (names : List Str) {Q : AFlow → Ren → St → Prop}
    (h : EV w b lev sc ρ e st fun v st₁ => ∃ xs, v = .tup xs ∧ xs.length = names.length ∧ Q .next (ρ.sets (names.zip xs)) st₁)
    (hk : names.all (isSt sc) = true := by decide +kernel) (hs : ∀ f : FId, swapsWithSole [.Tuple elts k tpos] e pos.line (f.env sc) = pure false := by intro _; with_unfolding_all rfl) (hw : ∀ f : FId, swappedStores [.Tuple elts k tpos] e (f.env sc) = pure none := by intro _; with_unfolding_all rfl)
    (hn : ∀ env, ((assignEach elts env).map (·.2)) = names.map fun x => fun v => (do standAt (match elts.find? (fun | .Name y _ => y == x | _ => false) with | some (.Name _ p) => p | _ => tpos); bindName env x v) := by intro _; with_unfolding_all rfl)
    (hstar : ∀ env, (assignEach elts env).findIdx? (·.1) = none := by intro _; with_unfolding_all rfl) : ES w b lev sc ρ (.Assign [.Tuple elts k tpos] e pos) st Q := by
  intro f A s R F I O Qc P
  refine Assign_Tuple (h f A s R F I O _ fun v av st₁ h₁ tk₁ S₁ I₁ r₁ q₁ => ?_) (hs f) (hw f)
  obtain ⟨xs, rfl, hl, hq⟩ := q₁
  cases r₁ with
  | tup et rt =>
    have hlen : (assignEach elts (f.env sc)).length = names.length := by
      have := congrArg List.length (hn (f.env sc))
      simpa using this
    refine assign_Tuple_tuple R.hh ⟨_, et, rfl, _, rfl⟩ (by rw [hlen, ← hl, ← rt.length]; simp) (hstar _) fun h₂ he => ?_
    obtain ⟨S₂, I₂⟩ := ext_step I₁ he
    rw [hn]
    refine storeAll _ names (by simp) (fun j t x h1 h2 v Q' s' hq' => ?_) hk ρ _ _ xs (F.step I O (S₁.trans S₂)) I₂ (F.off O (S₁.trans S₂)) ((rt.keep (S₂.keepT I₁))) (by simp [rt.length, hl]) _ fun h₃ tk₃ S₃ F₃ I₃ => ?_
    · rw [List.getElem?_map, h2] at h1
      cases h1
      exact wpAny_bind (wpAny_standAt (wpAny_bindName hq'))
    · exact P .next .next _ st₁ h₃ tk₃ ((S₁.trans S₂).toF.trans S₃) F₃ I₃ (F.off O (S₁.trans S₂)) .next hq
/-- the stores of a display of two or three names go from behind -/
theorem ES_Unpack' {elts : List Expr} {k : Nat} {tpos pos : Pos} {e : Expr} (names : List Str) {Q : AFlow → Ren → St → Prop}
    (h : EV w b lev sc ρ e st fun v st₁ => ∃ xs, v = .tup xs ∧ xs.length = names.length ∧ Q .next (ρ.sets (names.reverse.zip xs.reverse)) st₁)
    (hk : names.reverse.all (isSt sc) = true := by decide +kernel) (hs : ∀ f : FId, swapsWithSole [.Tuple elts k tpos] e pos.line (f.env sc) = pure false := by intro _; with_unfolding_all rfl) (hw : ∀ f : FId, swappedStores [.Tuple elts k tpos] e (f.env sc) = pure (some names) := by intro _; with_unfolding_all rfl) : ES w b lev sc ρ (.Assign [.Tuple elts k tpos] e pos) st Q := by
  intro f A s R F I O Qc P
  refine Assign_Tuple_swapped (h f A s R F I O _ fun v av st₁ h₁ tk₁ S₁ I₁ r₁ q₁ => ?_) (hs f) (hw f)
  obtain ⟨xs, rfl, hl, hq⟩ := q₁
  cases r₁ with
  | @tup t vs n _ et rt =>
    have hsz : names.length = vs.toArray.size := by rw [List.size_toArray, rt.length, hl]
    rw [hsz]
    refine unpackItems_tuple R.hh ⟨_, et, rfl, _, rfl⟩ fun h₂ he => ?_
    obtain ⟨S₂, I₂⟩ := ext_step I₁ he
    refine storeAll _ names.reverse (by simp) (fun j t x h1 h2 v Q' s' hq' => ?_) hk ρ _ _ xs.reverse (F.step I O (S₁.trans S₂)) I₂ (F.off O (S₁.trans S₂)) (by simpa using (rt.keep (S₂.keepT I₁)).reverse) (by simp [rt.length, hl]) _ fun h₃ tk₃ S₃ F₃ I₃ => ?_
    · rw [List.getElem?_map, h2] at h1
      cases h1
      exact wpAny_bindName hq'
    · exact P .next .next _ st₁ h₃ tk₃ ((S₁.trans S₂).toF.trans S₃) F₃ I₃ (F.off O (S₁.trans S₂)) .next hq
end

/-! F6 -/
section

variable {w : World} {b : Heap} {lev : Nat} {sc : Scope} {ρ : Ren} {st : St}

noncomputable def Ren.nil : Ren := fun _ => none

theorem binds_rep {h : Heap} {scope : Scope} {kindOf : Str → Option NameKind} (hko : ∀ x, kindOf x = scope.names.lookup x) : ∀ (names : List Str) (vs : List Value) (xs : List AV) (m cm : Str → Option Value) (ρ : Ren), names.all (isSt scope) = true → RepAll h vs xs → vs.length = names.length →
    (∀ x av, ρ x = some av → (scope.names.lookup x = some .local → ∃ v, m x = some v ∧ Rep h v av) ∧ (scope.names.lookup x = some .cell → ∃ v, cm x = some v ∧ Rep h v av)) →
    ∀ x av, ρ.sets (names.zip xs) x = some av → (scope.names.lookup x = some .local → ∃ v, bindL kindOf (names.zip vs) m x = some v ∧ Rep h v av) ∧ (scope.names.lookup x = some .cell → ∃ v, bindC kindOf (names.zip vs) cm x = some v ∧ Rep h v av)
  | [], vs, xs, m, cm, ρ, _, r, hl, hm => by
    have : vs = [] := by simpa using hl
    subst this; cases r
    exact hm
  | n :: names, vs, xs, m, cm, ρ, hk, r, hl, hm => by
    cases r with
    | nil => cases hl
    | @cons v vs y ys r₀ r =>
      rw [List.all_cons, Bool.and_eq_true] at hk
      refine binds_rep hko names vs ys _ _ _ hk.2 r (by simpa using hl) fun z av e => ?_
      unfold Ren.set at e
      rcases isSt_of hk.1 with hn | hn
      · have hz : kindOf n = some .local := by rw [hko, hn]
        rw [if_pos hz, if_pos hz]
        by_cases hzn : z = n
        · rw [if_pos hzn] at e; cases e
          subst hzn
          refine ⟨fun _ => ⟨v, if_pos rfl, r₀⟩, fun l => ?_⟩
          rw [hn] at l; cases l
        · rw [if_neg hzn] at e
          refine ⟨fun l => ?_, (hm z av e).2⟩
          rw [if_neg hzn]; exact (hm z av e).1 l
      · have hz : ¬ kindOf n = some .local := by rw [hko, hn]; decide
        rw [if_neg hz, if_neg hz]
        by_cases hzn : z = n
        · rw [if_pos hzn] at e; cases e
          subst hzn
          refine ⟨fun l => ?_, fun _ => ⟨v, if_pos rfl, r₀⟩⟩
          rw [hn] at l; cases l
        · rw [if_neg hzn] at e
          refine ⟨(hm z av e).1, fun l => ?_⟩
          rw [if_neg hzn]; exact (hm z av e).2 l

theorem no_cells {h : Heap} : ∀ (names : List Str) (xs : List AV) (vs : List Value) (ρ : Ren), RepAll h vs xs → (∀ cl cd, ρ "<cl>" ≠ some (.cells cl cd)) → ∀ cl cd, ρ.sets (names.zip xs) "<cl>" = some (.cells cl cd) → False
  | [], xs, _, ρ, _, hρ, cl, cd, e => hρ cl cd e
  | n :: names, xs, vs, ρ, r, hρ, cl, cd, e => by
    cases r with
    | nil => exact hρ cl cd e
    | @cons v vs x xs r₀ r =>
      refine no_cells names xs vs (ρ.set n x) r (fun cl' cd' e' => ?_) cl cd e
      unfold Ren.set at e'
      by_cases hy : ("<cl>" : Str) = n
      · rw [if_pos hy] at e'; cases e'; cases r₀
      · rw [if_neg hy] at e'; exact hρ cl' cd' e'
theorem newFrame {A : Around} {s : Shared} {scope : Scope} {qual : Str} {fn : Option Addr} {code : Value} {names : List Str} {vs : List Value} {xs : List AV}
    (hk : scope.kind = .function) (I : Inv b st s.heap) (r : RepAll s.heap vs xs) (hl : vs.length = names.length) (hn : names.all (isSt scope) = true) {Qc : Env → Shared → Prop}
    (P : ∀ (f : FId) h' tk', f.q = qual → f.fn = fn → f.cd = code → f.frm = some f.L → FrOK f scope h' (Ren.nil.sets (names.zip xs)) → Inv b st h' → Off b f st → (∀ a o, s.heap.get? a = some o → h'.get? a = some o) → (∀ a, Own f a → s.heap.get? a = none) → Qc (f.env scope) { s with heap := h', toks := tk' }) :
    wpAny (model Pg w) A (newFunctionEnv scope mainGlobals [] (names.zip vs) qual fn code none builtinsNs) Qc NoE s := by
  have hall : ∀ x, scope.names.lookup x = some .cell → ((cellsFrom 0 scope.names []).lookup x).isSome = true := fun x h => cellsFrom_some scope.names 0 [] (.inl h)
  have some_of : ∀ n x, ((cellsFrom 0 scope.names []).lookup x).isSome = true → ((cellsFrom n scope.names []).lookup x).isSome = true := by
    intro n x hx
    have key : ∀ (l : List (Str × NameKind)) (a c : Nat) (acc acc' : List (Str × Addr)), acc.map (·.1) = acc'.map (·.1) → ((cellsFrom a l acc).map (·.1)) = ((cellsFrom c l acc').map (·.1)) := by
      intro l a c acc acc' e
      exact cellsFrom_names l a c acc acc' e
    have e := key scope.names 0 n [] [] rfl
    have look : ∀ (l : List (Str × Addr)), (l.lookup x).isSome = (l.map (·.1)).contains x := by
      intro l
      induction l with
      | nil => rfl
      | cons p l ih =>
        rw [List.lookup_cons, List.map_cons, List.contains_cons]
        cases hxp : x == p.1 <;> simp [ih]
    rw [look] at hx ⊢
    rw [← e]; exact hx
  refine wpAny_newFunctionEnv_cells hk (fun x hx => ?_) fun env he s' X => ?_
  · have hm : x.1 ∈ names := (List.of_mem_zip hx).1
    have h1 := List.all_eq_true.mp hn _ hm
    rcases isSt_of h1 with h | h
    · exact .inl h
    · exact .inr ⟨h, some_of _ _ (hall _ h)⟩
  · subst he
    obtain ⟨h', tk', rfl, hkeep⟩ := X.done
    have hap : ∀ {l : List (Str × Addr)}, l.Pairwise (fun x y => x.2 ≠ y.2) → ∀ {x y c}, (x, c) ∈ l → (y, c) ∈ l → x = y := by
      intro l hp
      induction hp with
      | nil => intro x y c h; cases h
      | cons hh _ ih =>
        intro x y c m1 m2
        rcases List.mem_cons.mp m1 with e1 | n1 <;> rcases List.mem_cons.mp m2 with e2 | n2
        · exact (Prod.mk.inj (e1.trans e2.symm)).1
        · subst e1; exact (hh _ n2 rfl).elim
        · subst e2; exact (hh _ n1 rfl).elim
        · exact ih n1 n2
    have I' : Inv b st h' := ⟨fun a o e => (I.rep a o e).keep (fun _ _ _ e => hkeep _ _ e) (fun o e => hkeep _ _ e), fun a o e => hkeep _ _ (I.base a o e), I.off⟩
    have dead : ∀ a, s.heap.objs.size ≤ a → s.heap.get? a = none := fun a ha => by
      cases e : s.heap.get? a with
      | none => rfl
      | some o => exact absurd (Heap.lt_size e) (Nat.not_lt.mpr ha)
    have bdead : ∀ a, s.heap.objs.size ≤ a → b.get? a = none := fun a ha => by
      cases e : b.get? a with
      | none => rfl
      | some o => have := dead a ha; rw [I.base a o e] at this; cases this
    have hL := X.toInCall.fresh
    have hC : ∀ x c, (cellsFrom (s.heap.objs.size + 1) scope.names []).lookup x = some c → s.heap.objs.size ≤ c := fun x c hp => Nat.le_of_lt (Nat.lt_of_le_of_lt hL (X.above x c (PySem.mem_of_lookup hp)))
    have key := binds_rep (h := h') (scope := scope) (kindOf := (newEnv scope s.heap.objs.size mainGlobals (cellsFrom (s.heap.objs.size + 1) scope.names []) qual fn code none builtinsNs).kindOf) (fun x => rfl) names vs xs (fun _ => none) (fun _ => none) Ren.nil hn (r.keep fun _ _ _ e => hkeep _ _ e) hl (fun x av e => by cases e)
    refine P ⟨s.heap.objs.size, cellsFrom (s.heap.objs.size + 1) scope.names [], qual, fn, code, some s.heap.objs.size⟩ h' tk' rfl rfl rfl rfl ⟨hk, ⟨_, X.toInCall.ns, fun x av e l => (key x av e).1 l⟩, fun x av e l => ?_, fun x hx => ?_, fun x c hp => ⟨_, X.cell x c hp⟩, fun x y c h1 h2 => hap X.apart (PySem.mem_of_lookup h1) (PySem.mem_of_lookup h2), fun cl cd e => (no_cells names xs vs Ren.nil r (fun _ _ e => by cases e) cl cd e).elim⟩ I'
      ⟨I.dead (dead _ (Nat.le_refl _)), fun x c hp => I.dead (dead _ (hC x c hp)), bdead _ (Nat.le_refl _), fun x c hp => bdead _ (hC x c hp)⟩ hkeep ?_
    · have hlc : scope.names.lookup x = some .cell := by
        rcases l with l | l
        · exact l
        · exfalso
          -- only the parameters are bound, and they are local or cell
          have : ∀ (names : List Str) (xs : List AV) (ρ : Ren), names.all (isSt scope) = true → (∀ x av, ρ x = some av → isSt scope x = true) → ∀ x av, ρ.sets (names.zip xs) x = some av → isSt scope x = true := by
            intro names
            induction names with
            | nil => intro xs ρ _ h x av e; exact h x av e
            | cons n names ih =>
              intro xs ρ hn h x av e
              rw [List.all_cons, Bool.and_eq_true] at hn
              cases xs with
              | nil => exact h x av e
              | cons y ys =>
                refine ih ys _ hn.2 (fun z av' e' => ?_) x av e
                unfold Ren.set at e'
                by_cases hz : z = n
                · subst hz; exact hn.1
                · rw [if_neg hz] at e'; exact h z av' e'
          have := this names xs Ren.nil hn (fun _ _ e => by cases e) x av e
          unfold isSt at this
          rw [l] at this; cases this
      obtain ⟨v, hv, rv⟩ := (key x av e).2 hlc
      have hs := some_of (s.heap.objs.size + 1) x (hall x hlc)
      obtain ⟨c, hc⟩ := Option.isSome_iff_exists.mp hs
      exact ⟨c, v, hc, hv ▸ X.cell x c hc, rv⟩
    · exact Option.isSome_iff_exists.mp (some_of _ _ (hall x hx))
    · rintro a (rfl | ⟨x, hp⟩)
      · exact dead _ (Nat.le_refl _)
      · exact dead _ (hC x _ hp)

theorem roomDeeper {A : Around} {env : Env} (R : RoomA (lev + 1) A) : RoomA lev (A.deeper env) :=
  ⟨R.hh, by have := R.dp; show A.depth + 1 + lev ≤ 900; omega, by have := R.un; show A.units + 3 + 10 * lev ≤ 9000; omega⟩

noncomputable abbrev RetQ (Q : AV → St → Prop) : AFlow → Ren → St → Prop := fun fl _ st' => match fl with | .ret v => Q v st' | .next => Q .none st' | _ => False

/-- a call, the machine's way round it too -/
noncomputable def CodeOk (w : World) (b : Heap) (lev : Nat) (f : Value) (args : List AV) (st : St) (Q : AV → St → Prop) : Prop :=
  ∀ (A : Around) (s : Shared) (vs : List Value), RoomA lev A → Inv b st s.heap → RepAll s.heap vs args → ∀ RR : Result → Shared → Prop,
    (∀ v av st' h' tk', Step st s.heap st' h' → Inv b st' h' → Rep h' v av → Q av st' → RR (.ok (.ret v)) { s with heap := h', toks := tk' }) → codeAny (model Pg w) A (.call f ⟨vs, []⟩) RR s
theorem CodeOk.call {f : Value} {args : List AV} {Q : AV → St → Prop} (h : CodeOk w b lev f args st Q) : CallOk w b lev f args st Q :=
  fun A s vs R I r Qc P => wpAny_call (h A s vs R I r _ fun v av st' h' tk' S I' r' q => P v av st' h' tk' S I' r' q)
/-- a def of the text, called -/
theorem CODE_def (G : Gd w b) {name qual : Str} {params : Arguments} {body : List Stmt} {scope : Scope} {dV kV doc pm cdv ct oc : Value} {an od : Option Addr} {osl : Array (Option Value)} {f : Addr} (names : List Str) {args : List AV} {Q : AV → St → Prop}
    (ho : (hd.heap_1 w.params).lookup f = some ⟨oc, od, .func (fnOf name qual params body scope dV kV doc pm an cdv ct), osl⟩) (hcd : codeIn (hd.heap_1 w.params) cdv qual = true)
    (hb : ∀ (s : Shared) (vs : List Value), (hd.heap_1 w.params).In s.heap → vs.length = names.length → BindsTo s (fnOf name qual params body scope dV kV doc pm an cdv ct) ⟨vs, []⟩ (names.zip vs))
    (hl : args.length = names.length)
    (h : EX w b lev scope (Ren.nil.sets (names.zip args)) body st (RetQ Q))
    (hn : names.all (isSt scope) = true := by decide +kernel)
    (hk : scope.kind = .function := by with_unfolding_all rfl) (hco : scope.isCoroutine = false := by with_unfolding_all rfl) (hgen : scope.isGenerator = false := by with_unfolding_all rfl) : CodeOk w b (lev + 1) (.ref f) args st Q := by
  intro A s vs R I r RR P
  have K := I.inK G
  have hvl : vs.length = names.length := by rw [r.length, hl]
  refine codeAny_call_function (fd := fnOf name qual params body scope dV kV doc pm an cdv ct) (by have := R.dp; unfold recursionLimit; omega) (K _ _ ho) rfl hco hgen rfl (codeRec_of K hcd) (hb s vs K hvl _ _ _ _ ?_)
  refine wpAny_mono (newFrame (w := w) (A := A.in1) (fn := some f) (code := cdv) (qual := qual ++ ".<locals>.") hk I r hvl hn
    (Qc := fun env s₂ => s₂.heap.NoLimit ∧ codeAny (model Pg w) A (.func body env) RR s₂) fun fr h₁ tk₁ _ _ _ _ F₁ I₁ O₁ k₁ own => ?_) (fun _ _ x => x) fun _ _ x => x.elim
  refine ⟨(G.nolimit.keeps I₁.base), codeAny_func (wpAny_mono (h fr (A.deeper (fr.env scope)) _ (roomDeeper R) F₁ I₁ O₁
    (fun fl s' => match fl with | .ret v => RR (.ok (.ret v)) s' | .next => RR (.ok (.ret .none)) s' | _ => False) fun fl afl ρ' st' h' tk' S' F' I' O' r' q' => ?_) (fun fl s' q => ?_) fun _ _ x => x.elim)⟩
  · have S : Step st s.heap st' h' := fun a o e g => S' a o (k₁ a o e) g fun ho => by rw [own a ho] at e; cases e
    cases r' with
    | next => exact P _ _ _ _ _ S I' .none q'
    | brk => exact q'.elim
    | cont => exact q'.elim
    | ret rv => exact P _ _ _ _ _ S I' rv q'
  · cases fl with
    | next => exact q
    | brk => exact q.elim
    | cont => exact q.elim
    | ret v => exact q
end

/-! F7 -/
section

variable {w : World} {b : Heap} {lev : Nat} {sc : Scope} {ρ : Ren} {st : St}

/-! ## + of lists and tuples -/
theorem BIN_addL {a c : Addr} {xs ys : List AV} {Q : AV → St → Prop} (ea : st a = some (.list xs)) (ec : st c = some (.list ys)) (hz : xs.length + ys.length ≤ sizeLine) (q : ∀ d, st d = none → Q (.obj d) (upd st d (.list (xs ++ ys)))) : BIN w b lev .Add (.obj a) (.obj c) st Q := by
  rintro A s vs R I (_ | ⟨⟨⟩, _ | ⟨⟨⟩, ⟨⟩⟩⟩) Qc P
  obtain ⟨us, n, e, r⟩ := I.rep _ _ ea
  obtain ⟨us', n', e', r'⟩ := I.rep _ _ ec
  refine PySem.P.add_list e e' ?_ (by simp [r.length, r'.length]; exact hz)
  have k := (step_push I (lstO (us ++ us') 0)).1.keepT I
  obtain ⟨S, J, hn⟩ := step_new I (lstO (us ++ us') 0) (.list (xs ++ ys)) ⟨_, 0, Heap.get?_push_size _ rfl, (r.append r').keep k⟩
  have ee : us.toArray ++ us'.toArray = (us ++ us').toArray := by simp
  rw [ee]
  exact P _ _ _ _ s.toks S J (.obj _) (q _ hn)
theorem BIN_addT {xs ys : List AV} {Q : AV → St → Prop} (hx : xs ≠ []) (hy : ys ≠ []) (hz : xs.length + ys.length ≤ sizeLine) (q : Q (.tup (xs ++ ys)) st) : BIN w b lev .Add (.tup xs) (.tup ys) st Q := by
  rintro A s vs R I (_ | ⟨rx, _ | ⟨ry, ⟨⟩⟩⟩) Qc P
  cases rx with
  | @tup _ us _ _ e r =>
    cases ry with
    | @tup _ us' _ _ e' r' =>
      have h1 : us ≠ [] := fun q => by subst q; cases r; exact hx rfl
      have h2 : us' ≠ [] := fun q => by subst q; cases r'; exact hy rfl
      refine concat_meets ⟨_, e, rfl⟩ ⟨_, e', rfl⟩ noFill_tuple_add seq_tuple_add F.slot_tuple_add F.entry_tuple_add (F.args_tuple_add_2 _ _) (AutoSeq1.tuple___add___tuple_tuple_2 _ us.toArray _ _ us'.toArray _ (by simpa using h1) (by simpa using h2) (by simp [r.length, r'.length]; exact hz)) ⟨e, e', ?_⟩
      obtain ⟨S, J⟩ := step_push I (tupO (us ++ us') 0)
      have ee : us.toArray ++ us'.toArray = (us ++ us').toArray := by simp
      rw [ee]
      exact P _ _ _ _ s.toks S J (.tup (Heap.get?_push_size _ rfl) ((r.append r').keep (S.keepT I))) q

/-! ## built-in functions -/
theorem C_len_list {a : Addr} {xs : List AV} {Q : AV → St → Prop} (ea : st a = some (.list xs)) (hz : xs.length ≤ sizeLine) (q : Q (.int xs.length) st) : CallOk w b lev (.builtin "len") [.obj a] st Q := by
  rintro A s vs R I (_ | ⟨⟨⟩, ⟨⟩⟩) Qc P
  obtain ⟨us, n, e, r⟩ := I.rep _ _ ea
  have hl : s.heap.IsList a us.toArray := ⟨_, e, rfl, _, rfl⟩
  have hs : us.toArray.size = xs.length := by simp [r.length]
  refine len_list hl (by rw [hs]; unfold sizeLine at hz; omega) ?_
  rw [hs]
  exact P.here I (.int _ _) q _
theorem C_len_tup {xs : List AV} {Q : AV → St → Prop} (hz : xs.length ≤ sizeLine) (q : Q (.int xs.length) st) : CallOk w b lev (.builtin "len") [.tup xs] st Q := by
  rintro A s vs R I (_ | ⟨rx, ⟨⟩⟩) Qc P
  cases rx with
  | @tup _ us _ _ e r =>
    have hs : us.toArray.size = xs.length := by simp [r.length]
    refine len_tuple ⟨_, e, rfl, _, rfl⟩ (by rw [hs]; unfold sizeLine at hz; omega) ?_
    rw [hs]
    exact P.here I (.int _ _) q _
theorem C_abs {x : Int} {Q : AV → St → Prop} (q : Q (.int (if x < 0 then -x else x)) st) : CallOk w b lev (.builtin "abs") [.int x] st Q := by
  rintro A s vs R I (_ | ⟨⟨⟩, ⟨⟩⟩) Qc P
  exact call_abs_int fun u tk => P.here I (.int _ _) q _
theorem C_max {x y : Int} {Q : AV → St → Prop} (q : Q (.int (if y > x then y else x)) st) : CallOk w b lev (.builtin "max") [.int x, .int y] st Q := by
  rintro A s vs R I (_ | ⟨⟨⟩, _ | ⟨⟨⟩, ⟨⟩⟩⟩) Qc P
  refine max_two_ints R.hh fun h' tk k => ?_
  have I' : Inv b st h' := ⟨fun a o e => (I.rep a o e).keep (fun _ _ _ e => k _ _ e) (fun o e => k _ _ e), fun a o e => k _ _ (I.base a o e), I.off⟩
  by_cases c : y > x
  · rw [if_pos c] at q ⊢
    exact P _ _ st h' tk (fun a o e g => ⟨k a o e, g⟩) I' (.int _ _) q
  · rw [if_neg c] at q ⊢
    exact P _ _ st h' tk (fun a o e g => ⟨k a o e, g⟩) I' (.int _ _) q
theorem C_int {x : Int} {Q : AV → St → Prop} (q : Q (.int x) st) : CallOk w b lev (.type "int") [.int x] st Q := by
  rintro A s vs R I (_ | ⟨⟨⟩, ⟨⟩⟩) Qc P
  exact call_int_int (P.here I (.int _ _) q _)
theorem C_tuple {a : Addr} {xs : List AV} {Q : AV → St → Prop} (ea : st a = some (.list xs)) (hz : xs.length ≤ sizeLine) (q : Q (.tup xs) st) : CallOk w b lev (.type "tuple") [.obj a] st Q := by
  rintro A s vs R I (_ | ⟨⟨⟩, ⟨⟩⟩) Qc P
  obtain ⟨us, n, e, r⟩ := I.rep _ _ ea
  have hl : s.heap.IsList a us.toArray := ⟨_, e, rfl, _, rfl⟩
  refine call_tuple_list hl (fun h' k => ?_) (by simp [r.length]; exact hz)
  have I' : Inv b st h' := ⟨fun a o e => (I.rep a o e).keep (fun _ _ _ e => k _ _ e) (fun o e => k _ _ e), fun a o e => k _ _ (I.base a o e), I.off⟩
  have S₁ : Step st s.heap st h' := fun a o e g => ⟨k a o e, g⟩
  obtain ⟨S, J⟩ := step_push I' (tupO us 0)
  exact P _ _ _ _ s.toks (S₁.trans S) J (.tup (Heap.get?_push_size _ rfl) (r.keep ((S₁.trans S).keepT I))) q

/-! ## methods of lists -/
theorem C_append {a : Addr} {xs : List AV} {x : AV} {Q : AV → St → Prop} (ea : st a = some (.list xs)) (hz : xs.length ≤ sizeLine) (q : Q .none (upd st a (.list (xs ++ [x])))) : CallOk w b lev (.builtin "list.append") [.obj a, x] st Q := by
  rintro A s vs R I (_ | ⟨⟨⟩, _ | ⟨rx, ⟨⟩⟩⟩) Qc P
  obtain ⟨us, n, e, r⟩ := I.rep _ _ ea
  refine append_at e (fun h' S e' => ?_) (by simp [r.length]; exact hz)
  have k := keepT_same I ea S
  obtain ⟨S', J⟩ := step_set I ea S (x := .list (xs ++ [x])) ⟨us ++ [_], n + 1, by simpa using e', (r.keep k).append (.cons (rx.keep k) .nil)⟩
  exact P _ _ _ _ s.toks S' J .none q
theorem C_pop {a : Addr} {xs : List AV} {x : AV} {Q : AV → St → Prop} (ea : st a = some (.list (xs ++ [x]))) (hz : xs.length < sizeLine) (q : Q x (upd st a (.list xs))) : CallOk w b lev (.builtin "list.pop") [.obj a] st Q := by
  rintro A s vs R I (_ | ⟨⟨⟩, ⟨⟩⟩) Qc P
  obtain ⟨us, n, e, r⟩ := I.rep _ _ ea
  have hlen := r.length
  simp only [List.length_append, List.length_singleton] at hlen
  obtain ⟨v, hv, rv⟩ := r.get (k := xs.length) (y := x) (by simp)
  have hus : us = us.take xs.length ++ [v] := by
    have h1 := List.take_append_drop xs.length us
    have h2 : us.drop xs.length = [v] := by
      have hlt : xs.length < us.length := by omega
      rw [List.drop_eq_getElem_cons hlt]
      have : us[xs.length] = v := by rw [List.getElem?_eq_getElem hlt] at hv; exact Option.some.inj hv
      rw [this, List.drop_eq_nil_of_le (by omega)]
    rw [h2] at h1
    exact h1.symm
  refine call_meets F.slot_list_pop ⟨_, e, rfl⟩ F.entry_list_pop (F.args_list_pop_1 _) (MeetsSeq.list_pop_last a us.toArray n v (by simp only [List.size_toArray, List.getElem?_toArray]; rw [show us.length - 1 = xs.length by omega]; exact hv) (by simp; omega)) ⟨e, ?_⟩
  have S := Heap.SameBut.update s.heap a (Obj.mapSeq fun xs => xs.eraseIdxIfInBounds (us.toArray.size - 1))
  have e' := IsL.update (show IsL s.heap a us.toArray n from e) fun xs => xs.eraseIdxIfInBounds (us.toArray.size - 1)
  have er : us.toArray.eraseIdxIfInBounds (us.toArray.size - 1) = (us.take xs.length).toArray := by
    have h1 : us.toArray.size - 1 = xs.length := by simp; omega
    rw [h1]
    unfold Array.eraseIdxIfInBounds
    rw [dif_pos (by simp; omega)]
    apply Array.toList_inj.mp
    simp only [Array.toList_eraseIdx]
    have : us.eraseIdx xs.length = us.take xs.length := by
      rw [List.eraseIdx_eq_take_drop_succ, List.drop_eq_nil_of_le (by omega), List.append_nil]
    simpa using this
  have k := keepT_same I ea S
  have rt : RepAll s.heap (us.take xs.length) xs := by simpa using r.take xs.length
  rw [er] at e'
  obtain ⟨S', J⟩ := step_set I ea S (x := .list xs) ⟨us.take xs.length, _, e', rt.keep k⟩
  exact P _ _ _ _ s.toks S' J (rv.keep k) q
theorem C_extend {a c : Addr} {xs ys : List AV} {Q : AV → St → Prop} (ea : st a = some (.list xs)) (ec : st c = some (.list ys)) (hz : xs.length + ys.length ≤ sizeLine) (q : Q .none (upd st a (.list (xs ++ ys)))) : CallOk w b lev (.builtin "list.extend") [.obj a, .obj c] st Q := by
  rintro A s vs R I (_ | ⟨⟨⟩, _ | ⟨⟨⟩, ⟨⟩⟩⟩) Qc P
  obtain ⟨us, n, e, r⟩ := I.rep _ _ ea
  obtain ⟨us', n', e', r'⟩ := I.rep _ _ ec
  have hsz : us.toArray.size + us'.toArray.size ≤ sizeLine := by simp [r.length, r'.length]; exact hz
  refine call_meets F.slot_list_extend ⟨_, e, rfl⟩ F.entry_list_extend (F.args_list_extend_2 _ _) (AutoSeq1.list_extend_list_list_0 a us.toArray n c us'.toArray n' (extend_door hsz) (Nat.le_trans (Nat.le_add_right _ _) hsz) (by omega)) ⟨e, e', ?_⟩
  have S := Heap.SameBut.update s.heap a (Obj.mapSeq fun x => x ++ us'.toArray)
  have e₂ := IsL.update (show IsL s.heap a us.toArray n from e) fun x => x ++ us'.toArray
  have k := keepT_same I ea S
  obtain ⟨S', J⟩ := step_set I ea S (x := .list (xs ++ ys)) ⟨us ++ us', _, by simpa using e₂, (r.append r').keep k⟩
  exact P _ _ _ _ s.toks S' J .none q

theorem EV_MethL {o e : Expr} {es : List Expr} {name : Str} {apos pos : Pos} {id : String} {Q : AV → St → Prop} (slot : Slot "list" name id) (hty : typeOf (.builtin id) = pure (.type "method_descriptor"))
    (h : EV w b lev sc ρ o st fun x st₁ => ∃ a xs, x = .obj a ∧ st₁ a = some (.list xs) ∧ IJ w b lev sc ρ pos (e :: es) st₁ fun ys st₂ => CallOk w b lev (.builtin id) (.obj a :: ys) st₂ Q)
    (pl : Env → Sem Bool)
    (he : ∀ env, eval (.Call (.Attribute o name apos) (e :: es) [] pos) env = (do
      let ov ← eval o env
      standAt apos.atName
      let (f, first) ← holding [ov] (getMethod ov name (pl env))
      callWith pos f first (backTo pos (starEach (e :: es) env)) []))
    (h1 : ∀ env, starEach (e :: es) env = (false, eval e env) :: starEach es env) (hp : ∀ env, (backTo pos (starEach es env)).any (·.1) = false) : EV w b lev sc ρ (.Call (.Attribute o name apos) (e :: es) [] pos) st Q := by
  intro f A s R F I O Qc P
  refine MethodCall_ (h f A s R F I O _ fun v av st₁ h₁ tk₁ S₁ I₁ r₁ q₁ => ?_) (he _)
  obtain ⟨a, xs, rfl, ea, hi⟩ := q₁
  cases r₁
  obtain ⟨us, n, el, r⟩ := I₁.rep _ _ ea
  refine getMethod_builtin ⟨_, el, rfl⟩ PySem.F.plainAttrs_list slot hty (fun c ec => by cases ec; exact ⟨_, el, rfl⟩) ?_
  rw [h1]
  refine Calls.callWith_builtin (by show (false || _) = false; rw [Bool.false_or]; exact hp _) (Calls.evalArgs_plain ?_)
  have := hi f A { s with heap := h₁, toks := tk₁ } R (F.step I O S₁) I₁ (F.off O S₁) _ fun vs ys st₂ h₂ tk₂ S₂ I₂ r₂ q₂ => q₂ A _ (.ref a :: vs) R I₂ (.cons (.obj a) r₂) _ fun v₃ av₃ st₃ h₃ tk₃ S₃ I₃ r₃ q₃ => P v₃ av₃ st₃ h₃ tk₃ ((S₁.trans S₂).trans S₃) I₃ r₃ q₃
  have e1 := h1 (f.env sc)
  dsimp only at this
  rw [e1] at this
  exact this
theorem EV_MethL0 {o : Expr} {name : Str} {apos pos : Pos} {id : String} {Q : AV → St → Prop} (slot : Slot "list" name id) (hty : typeOf (.builtin id) = pure (.type "method_descriptor"))
    (h : EV w b lev sc ρ o st fun x st₁ => ∃ a xs, x = .obj a ∧ st₁ a = some (.list xs) ∧ CallOk w b lev (.builtin id) [.obj a] st₁ Q)
    (pl : Env → Sem Bool)
    (he : ∀ env, eval (.Call (.Attribute o name apos) [] [] pos) env = (do
      let ov ← eval o env
      standAt apos.atName
      let (f, first) ← holding [ov] (getMethod ov name (pl env))
      callWith pos f first (backTo pos (starEach [] env)) [])) : EV w b lev sc ρ (.Call (.Attribute o name apos) [] [] pos) st Q := by
  intro f A s R F I O Qc P
  refine MethodCall_ (h f A s R F I O _ fun v av st₁ h₁ tk₁ S₁ I₁ r₁ q₁ => ?_) (he _)
  obtain ⟨a, xs, rfl, ea, hi⟩ := q₁
  cases r₁
  obtain ⟨us, n, el, r⟩ := I₁.rep _ _ ea
  refine getMethod_builtin ⟨_, el, rfl⟩ PySem.F.plainAttrs_list slot hty (fun c ec => by cases ec; exact ⟨_, el, rfl⟩) ?_
  refine callWith_method0 (hi A _ [.ref a] R I₁ (.cons (.obj a) .nil) _ fun v₃ av₃ st₃ h₃ tk₃ S₃ I₃ r₃ q₃ => P v₃ av₃ st₃ h₃ tk₃ (S₁.trans S₃) I₃ r₃ q₃)

/-! ## a list's item is set -/
theorem setItem_plain {A : Around} {s : Shared} {l : Addr} {items : Array Value} {n : Nat} {k : Int} {t : Tok} {v : Value} {Qc : Unit → Shared → Prop} (ho : s.heap.get? l = some { cls := .type "list", data := .seq items n })
    (h0 : 0 ≤ k) (hfit : k < 2 ^ 63) (hn : k < items.size)
    (hQ : ∀ h' n', h'.get? l = some { cls := .type "list", data := .seq (items.setIfInBounds k.toNat v) n' } → Heap.SameBut l s.heap h' → Qc () { s with heap := h' }) :
    wpAny (model Pg w) A (setItem (.ref l) (.int k t) v) Qc NoE s := by
  have hl : s.heap.IsList l items := ⟨_, ho, rfl, n, rfl⟩
  unfold setItem
  refine wpAny_holding (wpAny_bind (wpAny_sequenceKey hl.typeIs (by decide) ?_))
  refine wpAny_bind (wpAny_callSpecial?_slot (name := Str.ofString "__setitem__") hl.typeIs PySem.slot_list_setitem
    (wpAny_call_entry PySem.slot_list_setitem hl.typeIs PySem.entry_list_setitem ?_ (PySem.args_list_setitem _ _ _)))
  show wpAny _ _ (Builtin.List.listSubscript? (.int k t) >>= _) _ _ s
  refine wpAny_bind (wpAny_listSubscript_int (fitsIndex_of h0 hfit) ?_)
  clear hfit
  obtain ⟨j, rfl⟩ := Int.eq_ofNat_of_zero_le h0
  have hj : j < items.size := by omega
  have hx' : items[j]? = some items[j] := Array.getElem?_eq_getElem hj
  show wpAny _ _ ((seqItemAt l j >>= fun r => pure (r.map (j, ·))) >>= _) _ _ s
  refine wpAny_bind (wpAny_bind (wpAny_seqItemAt ho rfl (wpAny_pure ?_)))
  rw [hx']
  show wpAny _ _ (setSeqItemAt l j v >>= _) _ _ s
  refine wpAny_bind (wpAny_setSeqItemAt ho rfl ?_)
  have e' := IsL.update (show IsL s.heap l items n from ho) fun xs => xs.setIfInBounds j v
  first
    | exact wpAny_bind (wpAny_pure (wpAny_pure ⟨.none, rfl, wpAny_pure (hQ _ _ e' (Heap.SameBut.update ..))⟩))
    | exact wpAny_pure ⟨.none, rfl, wpAny_pure (hQ _ _ e' (Heap.SameBut.update ..))⟩
theorem RepAll.set {h : Heap} : ∀ {vs : List Value} {xs : List AV} (k : Nat) {v : Value} {x : AV}, RepAll h vs xs → Rep h v x → RepAll h (vs.set k v) (xs.set k x)
  | _, _, _, _, _, .nil, _ => .nil
  | _, _, 0, _, _, .cons _ r, y => .cons y r
  | _, _, k + 1, _, _, .cons a r, y => .cons a (r.set k y)

theorem ES_AssignSub {o i value : Expr} {p pos : Pos} {Q : AFlow → Ren → St → Prop}
    (h : EV w b lev sc ρ value st fun v st₁ => EV w b lev sc ρ o st₁ fun x st₂ => EV w b lev sc ρ i st₂ fun y st₃ => ∃ a xs k, x = .obj a ∧ st₃ a = some (.list xs) ∧ y = .int k ∧ 0 ≤ k ∧ k < 2 ^ 63 ∧ k < xs.length ∧ Q .next ρ (upd st₃ a (.list (xs.set k.toNat v))))
    (hs : ∀ f : FId, swapsWith value (some (.Subscript o i p)) pos.line (f.env sc) = pure false := by intro _; with_unfolding_all rfl) : ES w b lev sc ρ (.Assign [.Subscript o i p] value pos) st Q := by
  intro f A s R F I O Qc P
  refine wpAny_Assign_Subscript (h f A s R F I O _ fun v av st₁ h₁ tk₁ S₁ I₁ r₁ q₁ => ?_) (hs f)
  refine q₁ f A _ R (F.step I O S₁) I₁ (F.off O S₁) _ fun v₂ av₂ st₂ h₂ tk₂ S₂ I₂ r₂ q₂ => ?_
  refine q₂ f A _ R (F.step I O (S₁.trans S₂)) I₂ (F.off O (S₁.trans S₂)) _ fun v₃ av₃ st₃ h₃ tk₃ S₃ I₃ r₃ q₃ => ?_
  obtain ⟨a, xs, k, rfl, ea, rfl, h0, hfit, hn, hq⟩ := q₃
  cases r₂
  cases r₃
  obtain ⟨us, n, e, r⟩ := I₃.rep _ _ ea
  refine setItem_plain (k := k) e h0 hfit (by simpa [r.length] using hn) fun h' n' e' S => ?_
  have kt := keepT_same I₃ ea S
  obtain ⟨S', J⟩ := step_set I₃ ea S (x := .list (xs.set k.toNat av)) ⟨us.set k.toNat v, n', by simpa using e', (r.set k.toNat (r₁.keep ((S₂.trans S₃).keepT I₁))).keep kt⟩
  have S4 := ((S₁.trans S₂).trans S₃).trans S'
  exact P .next .next _ _ h' tk₃ S4.toF (F.step I O S4) J (F.off O S4) .next hq
end

/-! F8 -/
section
open Builtin Builtin.ObjectAttr Builtin.Getset_descriptor

variable {w : World} {b : Heap} {lev : Nat} {sc : Scope} {ρ : Ren} {st : St}

/-! ## the dict of an object -/
theorem RepD.get {h : Heap} {es : List DictEntry} {fs : List (Str × AV)} (r : RepD h es fs) {name : Str} {x : AV} (e : fs.lookup name = some x) : ∃ v, getL name es = some (some v) ∧ Rep h v x := by
  have key : ∃ en, es.find? (·.key.isStr name) = some en ∧ Rep h en.val x := by
    induction r with
    | nil => cases e
    | @cons k tk hs v y es fs r₀ _ ih =>
      rw [List.lookup_cons] at e
      rw [List.find?_cons]
      cases hk : name == k with
      | true =>
        rw [hk] at e; cases e
        have : Value.isStr (.str k tk) name = true := by show (k == name) = true; rw [beq_iff_eq] at hk ⊢; exact hk.symm
        exact ⟨⟨hs, .str k tk, v⟩, by simp only [this], r₀⟩
      | false =>
        rw [hk] at e
        have : Value.isStr (.str k tk) name = false := by
          show (k == name) = false
          rw [beq_eq_false_iff_ne] at hk ⊢; exact fun q => hk q.symm
        simp only [this]
        exact ih e
  obtain ⟨en, h1, h2⟩ := key
  exact ⟨en.val, by unfold getL; rw [h1], h2⟩
theorem RepD.noRef {h : Heap} {es : List DictEntry} {fs : List (Str × AV)} (r : RepD h es fs) : es.any (·.refKey) = false := by
  induction r with
  | nil => rfl
  | cons _ _ ih => rw [List.any_cons, ih]; rfl
theorem RepD.miss {h : Heap} {es : List DictEntry} {fs : List (Str × AV)} (r : RepD h es fs) {name : Str} (e : fs.lookup name = none) : getL name es = some none := by
  have key : es.find? (·.key.isStr name) = none := by
    induction r with
    | nil => rfl
    | @cons k tk hs v y es fs r₀ _ ih =>
      rw [List.lookup_cons] at e
      rw [List.find?_cons]
      cases hk : name == k with
      | true => rw [hk] at e; cases e
      | false =>
        rw [hk] at e
        have : Value.isStr (.str k tk) name = false := by
          show (k == name) = false
          rw [beq_eq_false_iff_ne] at hk ⊢; exact fun q => hk q.symm
        simp only [this]
        exact ih e
  unfold getL
  rw [key, r.noRef]
  rfl
noncomputable def fset (fs : List (Str × AV)) (name : Str) (x : AV) : List (Str × AV) := match fs with
  | [] => [(name, x)]
  | (k, y) :: r => if k == name then (k, x) :: r else (k, y) :: fset r name x
theorem RepD.put {h : Heap} {es : List DictEntry} {fs : List (Str × AV)} (r : RepD h es fs) {name : Str} {hsh : Int} {tk : Tok} {v : Value} {x : AV} (rv : Rep h v x) : RepD h (putL name hsh (.str name tk) v es) (fset fs name x) := by
  induction r with
  | nil => exact .cons rv .nil
  | @cons k tk' hs u y es fs r₀ r ih =>
    unfold putL fset
    have e : Value.isStr (.str k tk') name = (k == name) := rfl
    dsimp only
    rw [e]
    cases hk : k == name with
    | true => exact .cons rv r
    | false => exact .cons r₀ ih
theorem RepD.length {h : Heap} {es : List DictEntry} {fs : List (Str × AV)} (r : RepD h es fs) : es.length = fs.length := by
  induction r with
  | nil => rfl
  | cons _ _ ih => simp [ih]
theorem putL_length (name : Str) (hsh : Int) (k v : Value) : ∀ es : List DictEntry, (putL name hsh k v es).length ≤ es.length + 1
  | [] => by simp [putL]
  | e :: r => by
    unfold putL
    split
    · simp
    · have := putL_length name hsh k v r
      simp; omega

theorem instAt {h : Heap} (I : Inv b st h) {x C dx : Addr} {fs : List (Str × AV)} (ex : st x = some (.inst C dx)) (ed : st dx = some (.dict fs)) : ∃ es n, InstAt h x (instObj C dx) C (some (dictOf es n)) ∧ h.get? dx = some (dictOf es n) ∧ RepD h es fs := by
  have e1 : h.get? x = some (instObj C dx) := I.rep _ _ ex
  obtain ⟨es, n, e2, r⟩ := I.rep _ _ ed
  exact ⟨es, n, ⟨e1, rfl, rfl, e2⟩, e2, r⟩

noncomputable def AV.plain : AV → Bool
  | .val _ => false
  | _ => true
theorem Rep.handed {h : Heap} {v : Value} {x : AV} (r : Rep h v x) (p : x.plain = true) : handedIn v = true := by
  cases r <;> first | rfl | cases p

theorem EV_Attr (G : Gd w b) {value : Expr} {name : Str} {pos : Pos} {Q : AV → St → Prop}
    (h : EV w b lev sc ρ value st fun y st₁ => ∃ x C dx fs v, y = .obj x ∧ st₁ x = some (.inst C dx) ∧ st₁ dx = some (.dict fs) ∧ fs.lookup name = some v ∧ v.plain = true ∧ findIn (hd.heap_1 w.params) (.ref C) "__getattribute__" = some (some (.builtin "object.__getattribute__")) ∧ findIn (hd.heap_1 w.params) (.ref C) name = some none ∧ hasDictIn (hd.heap_1 w.params) C = true ∧ Q v st₁)
    (he : ∀ env, eval (.Attribute value name pos) env = (do
      let o ← eval value env
      standAt pos.atName
      let r ← holding [o] (getAttr o name true)
      letTemporaryGo value o r
      pure r)) : EV w b lev sc ρ (.Attribute value name pos) st Q := by
  intro f A s R F I O Qc P
  refine Attribute_any_ (h f A s R F I O _ fun v av st₁ h₁ tk₁ S₁ I₁ r₁ q₁ => ?_) (he _)
  obtain ⟨x, C, dx, fs, y, rfl, ex, ed, hl, hp, k1, k2, k3, hq⟩ := q₁
  cases r₁
  obtain ⟨es, n, IA, hd', r⟩ := instAt I₁ ex ed
  obtain ⟨v, gv, rv⟩ := r.get hl
  have X := I₁.inK G
  refine get_value (v := v) X IA k1 ?_ (rv.handed hp) (P v y st₁ h₁ _ S₁ I₁ rv hq)
  unfold hasDictIn at k3
  cases hc : clsIn (hd.heap_1 w.params) C with
  | none => rw [hc] at k3; cases k3
  | some cd =>
    rw [hc] at k3
    have k3' : cd.hasDict = true := k3
    unfold findObj
    rw [hc, k2]
    simp only [Option.bind_some]
    unfold W.ownOf
    rw [k3']
    have : lookIn name (dictOf es n) = some (some v) := by rw [lookIn_dict]; exact gv
    simp only [if_true, this, Option.bind_some]

theorem EV_MethI (G : Gd w b) {o e : Expr} {es : List Expr} {name : Str} {apos pos : Pos} {Q : AV → St → Prop}
    (h : EV w b lev sc ρ o st fun y st₁ => ∃ x C dx fs fa, y = .obj x ∧ st₁ x = some (.inst C dx) ∧ st₁ dx = some (.dict fs) ∧ fs.lookup name = none ∧ findIn (hd.heap_1 w.params) (.ref C) "__getattribute__" = some (some (.builtin "object.__getattribute__")) ∧ findIn (hd.heap_1 w.params) (.ref C) "__getattr__" = some none ∧
      findIn (hd.heap_1 w.params) (.ref C) name = some (some (.ref fa)) ∧ typeIn (hd.heap_1 w.params) (.ref fa) = some (.type "function") ∧ keepIn (hd.heap_1 w.params) (.ref fa) = true ∧ IJ w b lev sc ρ pos (e :: es) st₁ fun ys st₂ => CallOk w b lev (.ref fa) (.obj x :: ys) st₂ Q)
    (pl : Env → Sem Bool)
    (he : ∀ env, eval (.Call (.Attribute o name apos) (e :: es) [] pos) env = (do
      let ov ← eval o env
      standAt apos.atName
      let (f, first) ← holding [ov] (getMethod ov name (pl env))
      callWith pos f first (backTo pos (starEach (e :: es) env)) []))
    (h1 : ∀ env, starEach (e :: es) env = (false, eval e env) :: starEach es env) (hp : ∀ env, (backTo pos (starEach es env)).any (·.1) = false) : EV w b lev sc ρ (.Call (.Attribute o name apos) (e :: es) [] pos) st Q := by
  intro f A s R F I O Qc P
  refine MethodCall_ (h f A s R F I O _ fun v av st₁ h₁ tk₁ S₁ I₁ r₁ q₁ => ?_) (he _)
  obtain ⟨x, C, dx, fs, fa, rfl, ex, ed, hl, k1, k2, k3, k4, k5, hi⟩ := q₁
  cases r₁
  obtain ⟨des, n, IA, hd', r⟩ := instAt I₁ ex ed
  refine method_fn (I₁.inK G) IA k1 k2 k3 k4 (by unfold shadowIn; dsimp only; rw [lookIn_dict, r.miss hl]; rfl) ?_
  refine callWith_K (I₁.inK G) k5 (hi f A _ R (F.step I O S₁) I₁ (F.off O S₁) _ fun vs ys st₂ h₂ tk₂ S₂ I₂ r₂ q₂ => ?_) (h1 _) (hp _)
  refine ⟨I₂.inK G, q₂ A _ (.ref x :: vs) R I₂ (.cons (.obj x) r₂) _ fun v₃ av₃ st₃ h₃ tk₃ S₃ I₃ r₃ q₃ => ?_⟩
  exact P v₃ av₃ st₃ h₃ tk₃ ((S₁.trans S₂).trans S₃) I₃ r₃ q₃
theorem EV_MethI0 (G : Gd w b) {o : Expr} {name : Str} {apos pos : Pos} {Q : AV → St → Prop}
    (h : EV w b lev sc ρ o st fun y st₁ => ∃ x C dx fs fa, y = .obj x ∧ st₁ x = some (.inst C dx) ∧ st₁ dx = some (.dict fs) ∧ fs.lookup name = none ∧ findIn (hd.heap_1 w.params) (.ref C) "__getattribute__" = some (some (.builtin "object.__getattribute__")) ∧ findIn (hd.heap_1 w.params) (.ref C) "__getattr__" = some none ∧
      findIn (hd.heap_1 w.params) (.ref C) name = some (some (.ref fa)) ∧ typeIn (hd.heap_1 w.params) (.ref fa) = some (.type "function") ∧ keepIn (hd.heap_1 w.params) (.ref fa) = true ∧ CallOk w b lev (.ref fa) [.obj x] st₁ Q)
    (pl : Env → Sem Bool)
    (he : ∀ env, eval (.Call (.Attribute o name apos) [] [] pos) env = (do
      let ov ← eval o env
      standAt apos.atName
      let (f, first) ← holding [ov] (getMethod ov name (pl env))
      callWith pos f first (backTo pos (starEach [] env)) [])) : EV w b lev sc ρ (.Call (.Attribute o name apos) [] [] pos) st Q := by
  intro f A s R F I O Qc P
  refine MethodCall_ (h f A s R F I O _ fun v av st₁ h₁ tk₁ S₁ I₁ r₁ q₁ => ?_) (he _)
  obtain ⟨x, C, dx, fs, fa, rfl, ex, ed, hl, k1, k2, k3, k4, k5, hi⟩ := q₁
  cases r₁
  obtain ⟨des, n, IA, hd', r⟩ := instAt I₁ ex ed
  refine method_fn (I₁.inK G) IA k1 k2 k3 k4 (by unfold shadowIn; dsimp only; rw [lookIn_dict, r.miss hl]; rfl) ?_
  refine callWith_K0 (I₁.inK G) k5 (hi A _ [.ref x] R I₁ (.cons (.obj x) .nil) _ fun v₃ av₃ st₃ h₃ tk₃ S₃ I₃ r₃ q₃ => ?_)
  exact P v₃ av₃ st₃ h₃ tk₃ (S₁.trans S₃) I₃ r₃ q₃

/-! ## an attribute is set -/
theorem setAttr_ (G : Gd w b) {A : Around} {s : Shared} {x C dx : Addr} {fs : List (Str × AV)} {name : Str} {v : Value} {y : AV} {Qc : Unit → Shared → Prop} (I : Inv b st s.heap) (ex : st x = some (.inst C dx)) (ed : st dx = some (.dict fs)) (rv : Rep s.heap v y)
    (k1 : findIn (hd.heap_1 w.params) (.ref C) "__setattr__" = some (some (.builtin "object.__setattr__"))) (k2 : plainOver (hd.heap_1 w.params) C = true) (k3 : takerIn (hd.heap_1 w.params) C name = some none) (k4 : hasDictIn (hd.heap_1 w.params) C = true) (hz : fs.length < 900)
    (P : ∀ h' tk', Step st s.heap (upd st dx (.dict (fset fs name y))) h' → Inv b (upd st dx (.dict (fset fs name y))) h' → Qc () { s with heap := h', toks := tk' }) : wpAny (model Pg w) A (setAttr (.ref x) name v) Qc NoE s := by
  obtain ⟨es, n, IA, hdx, r⟩ := instAt I ex ed
  have X := I.inK G
  refine set_plain X IA k1 (osa_open (s := { s with toks := s.toks + 1 }) X IA k2 k3 fun onT => ?_)
  obtain ⟨cd, hc, hd'⟩ := any_some k4
  have IAx := IA.at_
  have L : Looks (model Pg w) s.heap (classData C) cd := looks_clsIn X hc
  have put : Obj.putName name (PyData.keyHash w.params name) (.str name (s.toks + 1)) v (dictOf es n) = dictOf (putL name (PyData.keyHash w.params name) (.str name (s.toks + 1)) v es) (putN name es n) := putName_dict ..
  have D' : (s.heap.update dx (Obj.putName name (PyData.keyHash w.params name) (.str name (s.toks + 1)) v)).get? dx = some (dictOf (putL name (PyData.keyHash w.params name) (.str name (s.toks + 1)) v es) (putN name es n)) := by
    rw [Heap.get?_update_self _ hdx (by rw [put]; rfl), put]
  have S := Heap.SameBut.update s.heap dx (Obj.putName name (PyData.keyHash w.params name) (.str name (s.toks + 1)) v)
  have kt := keepT_same I ed S
  obtain ⟨S', J⟩ := step_set I ed S (x := .dict (fset fs name y)) ⟨_, _, D', (r.keep kt).put (rv.keep kt)⟩
  have fin := P _ (s.toks + 2) S' J
  show wpAny _ _ (storeInOwnDict (.ref x) (.ref C) _ name v onT) _ _ _
  unfold storeInOwnDict ownDictForStores instanceDict
  refine wpAny_bind (wpAny_pure (wpAny_bind (wpAny_bind (wpAny_loadPart IAx (wpAny_bind (L _ _ _ _ (fun _ _ e => e) ?_))))))
  rw [hd']
  refine wpAny_pure (a := some dx) (wpAny_bind (wpAny_pure (wpAny_bind ?_)))
  unfold nsSet
  refine wpAny_bind (wpAny_bind (wpAny_askSetting (wpAny_pure (wpAny_bind (wpAny_mkText (wpAny_bind (wpAny_loadPart hdx ?_)))))))
  have c : (!es.toArray.any (·.key.isStr name) && es.toArray.any (·.refKey)) = false := by
    have := r.noRef
    simp only [List.any_toArray, this, Bool.and_false]
  dsimp only
  rw [aRefKeyMayBeTheName_at, c]
  refine wpAny_updatePart hdx ?_
  refine wpAny_bind (wpAny_lookBehind D' (pastItsLine_dict (by rw [List.size_toArray, sizeLine_eq]; have h1 := putL_length name (PyData.keyHash w.params name) (.str name (s.toks + 1)) v es; have h2 := r.length; omega)) ?_)
  exact wpAny_pure fin

theorem ES_AttrSet (G : Gd w b) {o value : Expr} {name : Str} {p pos : Pos} {Q : AFlow → Ren → St → Prop}
    (h : EV w b lev sc ρ value st fun v st₁ => EV w b lev sc ρ o st₁ fun y st₂ => ∃ x C dx fs fs', y = .obj x ∧ st₂ x = some (.inst C dx) ∧ st₂ dx = some (.dict fs) ∧ fset fs name v = fs' ∧ fs.length < 900 ∧ findIn (hd.heap_1 w.params) (.ref C) "__setattr__" = some (some (.builtin "object.__setattr__")) ∧ plainOver (hd.heap_1 w.params) C = true ∧ takerIn (hd.heap_1 w.params) C name = some none ∧ hasDictIn (hd.heap_1 w.params) C = true ∧ Q .next ρ (upd st₂ dx (.dict fs')))
    (hs : ∀ f : FId, swapsWith value (some (.Attribute o name p)) pos.line (f.env sc) = pure false := by intro _; with_unfolding_all rfl) : ES w b lev sc ρ (.Assign [.Attribute o name p] value pos) st Q := by
  intro f A s R F I O Qc P
  refine plainObj_wpAny_Assign_Attribute (h f A s R F I O _ fun v av st₁ h₁ tk₁ S₁ I₁ r₁ q₁ => ?_) (hs f)
  refine q₁ f A _ R (F.step I O S₁) I₁ (F.off O S₁) _ fun v₂ av₂ st₂ h₂ tk₂ S₂ I₂ r₂ q₂ => ?_
  obtain ⟨x, C, dx, fs, fs', rfl, ex, ed, rfl, hz, k1, k2, k3, k4, hq⟩ := q₂
  cases r₂
  refine setAttr_ G I₂ ex ed (r₁.keep (S₂.keepT I₁)) k1 k2 k3 k4 hz fun h' tk' S₃ J => ?_
  have S := (S₁.trans S₂).trans S₃
  exact P .next .next _ _ h' tk' S.toF (F.step I O S) J (F.off O S) .next hq

/-! ## an object is made -/
theorem C_make (G : Gd w b) {C fI : Addr} {args : List AV} {Q : AV → St → Prop} (hm : makesIn (hd.heap_1 w.params) C = true) (hi : findIn (hd.heap_1 w.params) (.ref C) "__init__" = some (some (.ref fI))) (hf : typeIn (hd.heap_1 w.params) (.ref fI) = some (.type "function"))
    (h : ∀ x dx, st x = none → st dx = none → dx ≠ x → CodeOk w b lev (.ref fI) (.obj x :: args) (upd (upd st dx (.dict [])) x (.inst C dx)) fun v st' => v = .none ∧ Q (.obj x) st') : CodeOk w b (lev + 2) (.ref C) args st Q := by
  rintro A ⟨hh, g, d, t, os⟩ vs R I r RR P
  have X := I.inK G
  refine make_core (makes_of X hm) (looks_findIn X hi) (fun self => bind_fn X self hf) (.inl rfl) ?_
  dsimp only at I r X
  obtain ⟨S₁, I₁, n1⟩ := step_new I emptyDict (.dict []) ⟨[], 0, Heap.get?_push_size _ rfl, .nil⟩
  obtain ⟨S₂, I₂, n2⟩ := step_new I₁ (instObj C hh.objs.size) (.inst C hh.objs.size) (Heap.get?_push_size _ rfl)
  have hsz : (hh.push emptyDict).objs.size = hh.objs.size + 1 := Heap.size_push ..
  rw [hsz] at S₂ I₂ n2
  have ne : hh.objs.size ≠ hh.objs.size + 1 := Nat.ne_of_lt (Nat.lt_succ_self _)
  have n2' : st (hh.objs.size + 1) = none := by rw [upd_ne ne.symm] at n2; exact n2
  have S := S₁.trans S₂
  have R' : RoomA lev (A.under (.builtin "type.__call__" ⟨.ref C :: vs, []⟩)) := by
    refine ⟨R.hh, ?_, ?_⟩
    · have := R.dp
      have e : (A.under (.builtin "type.__call__" ⟨.ref C :: vs, []⟩)).depth = A.depth + 1 := rfl
      rw [e]; omega
    · have := R.un
      show A.units + Code.cUnits (.builtin "type.__call__" ⟨.ref C :: vs, []⟩) + 10 * lev ≤ 9000
      have e : Code.cUnits (.builtin "type.__call__" ⟨.ref C :: vs, []⟩) ≤ 3 := by first | exact Nat.le_refl _ | (show (1:Nat) ≤ 3; decide) | (show (2:Nat) ≤ 3; decide) | (show (0:Nat) ≤ 3; decide)
      omega
  refine h _ _ n2' n1 ne (A.under (.builtin "type.__call__" ⟨.ref C :: vs, []⟩)) ⟨(hh.push emptyDict).push (instObj C hh.objs.size), g, d, t, os⟩ (.ref (hh.objs.size + 1) :: vs) R' I₂ (.cons (.obj _) (r.keep (S.keepT I)))
    _ fun v av st' h' tk' S' I' r' q' => ?_
  obtain ⟨rfl, hq⟩ := q'
  cases r'
  exact ⟨rfl, P _ _ _ _ tk' (S.trans S') I' (.obj _) hq⟩
end

/-! F9 -/
section

variable {w : World} {b : Heap} {lev : Nat} {sc : Scope} {ρ : Ren} {st : St}

/-! ## ranges -/
theorem C_range1 {n : Int} {Q : AV → St → Prop} (q : Q (.rng 0 n 1) st) : CallOk w b lev (.type "range") [.int n] st Q := by
  rintro A s vs R I (_ | ⟨⟨⟩, ⟨⟩⟩) Qc P
  refine call_range_1 ?_
  obtain ⟨S, J⟩ := step_push I (rngO 0 n 1 s.toks (by assumption) (s.toks + 1))
  exact P _ _ _ _ (s.toks + 1 + 1) S J (.rng (Heap.get?_push_size _ rfl)) q
theorem C_range3 {x y z : Int} {Q : AV → St → Prop} (hz : z ≠ 0) (hp : z.natAbs < 1073741824) (q : Q (.rng x y z) st) : CallOk w b lev (.type "range") [.int x, .int y, .int z] st Q := by
  rintro A s vs R I (_ | ⟨r1, _ | ⟨r2, _ | ⟨r3, ⟨⟩⟩⟩⟩) Qc P
  cases r1 with | int _ t =>
  cases r2 with | int _ u =>
  cases r3 with | int _ v =>
  refine call_range_3 hz ?_ (.inl (PyProof.noPylong_small hp))
  obtain ⟨S, J⟩ := step_push I (rngO x y z t u v)
  exact P _ _ _ _ s.toks S J (.rng (Heap.get?_push_size _ rfl)) q

/-! ## what is gone through -/
inductive ItemsOf : AV → St → List AV → Prop
  | list {l : Addr} {st : St} {xs : List AV} : st l = some (.list xs) → ItemsOf (.obj l) st xs
  | tup {st : St} (xs : List AV) : ItemsOf (.tup xs) st xs
  | rng {st : St} {a c d : Int} {n : Nat} : Builtin.Range.small a c d = true → Builtin.Range.rangeSize a c d = (n : Int) → ItemsOf (.rng a c d) st ((List.range n).map fun i : Nat => AV.int (a + (i : Int) * d))
inductive Cur (I : Addr) (h : Heap) : AV → Nat → Prop
  | list {l : Addr} {i : Nat} : h.IsListIter I l i → Cur I h (.obj l) i
  | tup {t : Addr} {vs : List Value} {n : Nat} {xs : List AV} {i : Nat} : IsTupIter h I t i → h.get? t = some (tupO vs n) → RepAll h vs xs → Cur I h (.tup xs) i
  | rng {a c d : Int} {n i : Nat} : Builtin.Range.rangeSize a c d = (n : Int) → IsRangeIter h I (a + (i : Int) * d) ((n : Int) - (i : Int)) d → Cur I h (.rng a c d) i

theorem Cur.alive {I : Addr} {h : Heap} {x : AV} {i : Nat} (c : Cur I h x i) : ∃ o, h.get? I = some o := by
  cases c with
  | list hi => obtain ⟨o, ho, _⟩ := hi; exact ⟨o, ho⟩
  | tup hi _ _ => obtain ⟨o, ho, _⟩ := hi; exact ⟨o, ho⟩
  | rng _ hi => exact ⟨_, hi⟩
theorem Cur.keep {I : Addr} {h h' : Heap} {x : AV} {i : Nat} (c : Cur I h x i) (e : ∀ o, h.get? I = some o → h'.get? I = some o) (k : KeepT h h') : Cur I h' x i := by
  cases c with
  | list hi => exact .list (hi.at e)
  | tup hi ht r => obtain ⟨o, ho, rest⟩ := hi; exact .tup ⟨o, e _ ho, rest⟩ (k _ _ (.tup _ _) ht) (r.keep k)
  | rng hn hi => exact .rng hn (e _ hi)

theorem iter_ {A : Around} {s : Shared} {x : AV} {v : Value} {xs : List AV} (hx : ItemsOf x st xs) (I : Inv b st s.heap) (r : Rep s.heap v x) {Qc : Value → Shared → Prop}
    (P : ∀ h', Cur s.heap.objs.size h' x 0 → Step st s.heap st h' → Inv b st h' → Qc (.ref s.heap.objs.size) { s with heap := h' }) : wpAny (model Pg w) A (pyIter v) Qc NoE s := by
  cases hx with
  | list e =>
    cases r
    obtain ⟨us, n, el, r⟩ := I.rep _ _ e
    refine wpAny_pyIter_list (items := us.toArray) ⟨_, el, rfl, _, rfl⟩ ?_
    obtain ⟨S, J⟩ := step_push I { cls := .type "list_iterator", data := .fields #[.ref _, .int 0 0] }
    exact P _ (.list ⟨_, Heap.get?_push_size _ rfl, rfl, rfl⟩) S J
  | tup xs =>
    cases r with
    | tup e r =>
      refine iter_tuple ⟨_, e, rfl, _, rfl⟩ ?_
      obtain ⟨S, J⟩ := step_push I { cls := .type "tuple_iterator", data := .fields #[.ref _, .int 0 0] }
      exact P _ (.tup ⟨_, Heap.get?_push_size _ rfl, rfl, rfl⟩ (Heap.get?_push_of_some _ e) (r.keep (S.keepT I))) S J
  | rng hs hn =>
    cases r with
    | rng e =>
      refine wpAny_pyIter_range e hs ?_
      obtain ⟨S, J⟩ := step_push I { cls := .type "range_iterator", data := .fields #[rawInt _, rawInt (Builtin.Range.rangeSize _ _ _), rawInt _] }
      refine P _ (.rng hn ?_) S J
      rw [← hn]
      simpa using Heap.get?_push_size _ rfl

theorem next_some {A : Around} {s : Shared} {I : Addr} {x y : AV} {xs : List AV} {i : Nat} (hx : ItemsOf x st xs) (J : Inv b st s.heap) (hI : st I = none) (c : Cur I s.heap x i) (hy : xs[i]? = some y) {Qc : Option Value → Shared → Prop}
    (P : ∀ v h' tk', Rep h' v y → Cur I h' x (i + 1) → Heap.SameBut I s.heap h' → Qc (some v) { s with heap := h', toks := tk' }) : wpAny (model Pg w) A (pyNext (.ref I)) Qc NoE s := by
  have kt : ∀ h', Heap.SameBut I s.heap h' → (∀ o, Imm o → s.heap.get? I ≠ some o) → KeepT s.heap h' := fun h' S hn c o m e => (S.2 c fun q => by subst q; exact hn o m e).trans e
  cases c with
  | @list l _ hi =>
    cases hx with
    | list e =>
      obtain ⟨us, n, el, r⟩ := J.rep _ _ e
      obtain ⟨v, hv, rv⟩ := r.get hy
      have hl : s.heap.IsList l us.toArray := ⟨_, el, rfl, _, rfl⟩
      refine wpAny_pyNext_list_item hi hl (by simpa using hv) fun h' hi' S => ?_
      have k := kt h' S fun o m e => by
        obtain ⟨o', ho', hc, _⟩ := hi
        rw [e] at ho'; cases ho'
        cases m <;> simp at hc
      exact P v h' s.toks (rv.keep k) (.list hi') S
  | tup hi ht r =>
    cases hx
    obtain ⟨v, hv, rv⟩ := r.get hy
    refine next_tuple_item hi ⟨_, ht, rfl, _, rfl⟩ (by simpa using hv) fun h' hi' S => ?_
    have k := kt h' S fun o m e => by
      obtain ⟨o', ho', hc, _⟩ := hi
      rw [e] at ho'; cases ho'
      cases m <;> simp at hc
    exact P v h' s.toks (rv.keep k) (.tup hi' (k _ _ (.tup _ _) ht) (r.keep k)) S
  | @rng a c d n i hn hi =>
    cases hx with
    | rng hs hn' =>
      rename_i n₀
      obtain rfl : n = n₀ := Int.ofNat_inj.mp (hn.symm.trans hn')
      rw [List.getElem?_map] at hy
      have hlt : i < n := by
        cases hq : (List.range n)[i]? with
        | none => rw [hq] at hy; cases hy
        | some j => have := (List.getElem?_eq_some_iff.mp hq).1; simpa using this
      rw [List.getElem?_range hlt] at hy
      cases hy
      refine wpAny_pyNext_range_item hi (by omega) fun h' hi' S => ?_
      refine P _ h' (s.toks + 1) (.int _ _) (.rng hn ?_) S
      have e1 : a + ((i + 1 : Nat) : Int) * d = a + (i : Int) * d + d := by push_cast; rw [Int.add_mul, Int.one_mul, Int.add_assoc]
      have e2 : (n : Int) - ((i + 1 : Nat) : Int) = (n : Int) - (i : Int) - 1 := by push_cast; omega
      rw [e1, e2]
      exact hi'
theorem next_none {A : Around} {s : Shared} {I : Addr} {x : AV} {xs : List AV} (hh : A.handled = none) (hx : ItemsOf x st xs) (J : Inv b st s.heap) (c : Cur I s.heap x xs.length) {Qc : Option Value → Shared → Prop}
    (P : ∀ h' tk', Heap.ExtBut I s.heap h' → Qc none { s with heap := h', toks := tk' }) : wpAny (model Pg w) A (pyNext (.ref I)) Qc NoE s := by
  generalize hi₀ : xs.length = i at c
  cases c with
  | @list l _ hi =>
    cases hx with
    | list e =>
      obtain ⟨us, n, el, r⟩ := J.rep _ _ e
      have hl : s.heap.IsList l us.toArray := ⟨_, el, rfl, _, rfl⟩
      exact wpAny_pyNext_list_end hh hi hl (by simp; have := r.length; omega) fun h' S => P h' s.toks S
  | tup hi ht r =>
    cases hx
    exact next_tuple_end hh hi ⟨_, ht, rfl, _, rfl⟩ (by simp; have := r.length; omega) fun h' S => P h' s.toks S
  | @rng a c d n i hn hi =>
    cases hx with
    | rng hs hn' =>
      rename_i n₀
      obtain rfl : n = n₀ := Int.ofNat_inj.mp (hn.symm.trans hn')
      have : n = i := by simpa using hi₀
      subst this
      exact wpAny_pyNext_range_end hh hi (by omega) fun h' S => P h' s.toks S

/-! ## targets -/
noncomputable def AsgOK (w : World) (b : Heap) (lev : Nat) (sc : Scope) (target : Expr) (y : AV) (ρ ρ' : Ren) : Prop :=
  ∀ (f : FId) (A : Around) (s : Shared) (st : St) (v : Value), RoomA lev A → FrOK f sc s.heap ρ → Inv b st s.heap → Off b f st → Rep s.heap v y → ∀ Qc : Unit → Shared → Prop,
    (∀ h' tk', StepF f st s.heap st h' → FrOK f sc h' ρ' → Inv b st h' → Qc () { s with heap := h', toks := tk' }) → wpAny (model Pg w) A (assign target (f.env sc) v) Qc NoE s
theorem asg_name {x : Str} {p : Pos} {y : AV} (hk : isSt sc x = true := by decide +kernel) : AsgOK w b lev sc (.Name x p) y ρ (ρ.set x y) := by
  intro f A s st v R F I O r Qc P
  exact wpAny_assign_Name (store_ F I O r (isSt_of hk) fun h' tk' S F' I' _ => P h' tk' S F' I')
theorem asg_tup {elts : List Expr} {k : Nat} {p : Pos} {ys : List AV} (names : List Str) (hl : ys.length = names.length) (hk : names.all (isSt sc) = true := by decide +kernel)
    (hn : ∀ env, ((assignEach elts env).map (·.2)) = names.map fun x => fun v => (do standAt (match elts.find? (fun | .Name y _ => y == x | _ => false) with | some (.Name _ p) => p | _ => p); bindName env x v) := by intro _; with_unfolding_all rfl)
    (hstar : ∀ env, (assignEach elts env).findIdx? (·.1) = none := by intro _; with_unfolding_all rfl) : AsgOK w b lev sc (.Tuple elts k p) (.tup ys) ρ (ρ.sets (names.zip ys)) := by
  intro f A s st v R F I O r Qc P
  cases r with
  | tup et rt =>
    have hlen : (assignEach elts (f.env sc)).length = names.length := by
      have := congrArg List.length (hn (f.env sc))
      simpa using this
    refine assign_Tuple_tuple R.hh ⟨_, et, rfl, _, rfl⟩ (by rw [hlen, ← hl, ← rt.length]; simp) (hstar _) fun h₂ he => ?_
    obtain ⟨S₂, I₂⟩ := ext_step I he
    rw [hn]
    refine storeAll _ names (by simp) (fun j t x h1 h2 v Q' s' hq' => ?_) hk ρ _ _ ys (F.step I O S₂) I₂ (F.off O S₂) (rt.keep (S₂.keepT I)) (by simp [rt.length, hl]) _ fun h₃ tk₃ S₃ F₃ I₃ => ?_
    · rw [List.getElem?_map, h2] at h1
      cases h1
      exact wpAny_bind (wpAny_standAt (wpAny_bindName hq'))
    · exact P h₃ tk₃ (S₂.toF.trans S₃) F₃ I₃

/-- the iterator's own turn leaves all else -/
theorem sameI {f : FId} {h h' : Heap} {I : Addr} (J : Inv b st h) (F : FrOK f sc h ρ) (hI : st I = none) (hb : b.get? I = none) (hO : ¬ Own f I) (hm : ∀ o, Imm o → h.get? I ≠ some o) (S : Heap.SameBut I h h') : Inv b st h' ∧ FrOK f sc h' ρ ∧ KeepT h h' := by
  have k : KeepT h h' := fun c o m e => (S.2 c fun q => by subst q; exact hm o m e).trans e
  refine ⟨⟨fun a o e => (J.rep a o e).keep k fun o' e' => (S.2 a fun q => by subst q; rw [hI] at e; cases e).trans e', fun a o e => (S.2 a fun q => by subst q; rw [hb] at e; cases e).trans (J.base a o e), J.off⟩, ?_, k⟩
  exact F.keep k (fun o e => (S.2 _ fun q => hO (.inl q.symm)).trans e) fun p c hp o e => (S.2 _ fun q => hO (.inr ⟨p, q ▸ hp⟩)).trans e
theorem Cur.notImm {I : Addr} {h : Heap} {x : AV} {i : Nat} (c : Cur I h x i) : ∀ o, Imm o → h.get? I ≠ some o := by
  intro o m e
  cases c with
  | list hi => obtain ⟨o', ho', hc, _⟩ := hi; rw [e] at ho'; cases ho'; cases m <;> simp at hc
  | tup hi _ _ => obtain ⟨o', ho', hc, _⟩ := hi; rw [e] at ho'; cases ho'; cases m <;> simp at hc
  | rng _ hi =>
    have := m.cls
    rw [Option.some.inj (e.symm.trans hi)] at this
    simp at this

theorem letGo_name {x : Str} {p : Pos} {y : AV} {xs : List AV} : ∀ (A : Around) (s : Shared) (I : Addr) (v : Value) (Q' : Unit → Shared → Prop) (i : Nat) (z : AV), Cur I s.heap y i → Rep s.heap v z → z ∈ xs → Q' () s → wpAny (model Pg w) A (letOwnedTupleGo (.Name x p) (.ref I) v) Q' NoE s :=
  fun _ _ _ _ _ _ _ _ _ _ q => wpAny_pure q
theorem letGo_tup {elts : List Expr} {k : Nat} {p : Pos} {l : Addr} {xs : List AV} (hx : ∀ x ∈ xs, ∃ ys, x = .tup ys) : ∀ (A : Around) (s : Shared) (I : Addr) (v : Value) (Q' : Unit → Shared → Prop) (i : Nat) (z : AV), Cur I s.heap (.obj l) i → Rep s.heap v z → z ∈ xs → Q' () s → wpAny (model Pg w) A (letOwnedTupleGo (.Tuple elts k p) (.ref I) v) Q' NoE s := by
  intro A s I v Q' i z c r hz q
  obtain ⟨ys, rfl⟩ := hx z hz
  cases c with
  | list hi =>
    cases r with
    | tup e r => exact wpAny_letOwnedTupleGo_listiter hi q
end

/-! F10 -/
section

variable {w : World} {b : Heap} {lev : Nat} {sc : Scope} {ρ : Ren} {st : St}

/-! ## while -/
theorem ES_While {test : Expr} {body : List Stmt} {pos : Pos} {Q : AFlow → Ren → St → Prop} (J : Nat → Ren → St → Prop) (n₀ : Nat) (h0 : J n₀ ρ st)
    (turn : ∀ n ρ' st', J n ρ' st' → TJ w b lev sc ρ' test st' fun c st₁ => if c then ∀ Q' : AFlow → Ren → St → Prop, (∀ ρ₂ st₂, (∃ m, m < n ∧ J m ρ₂ st₂) → Q' .next ρ₂ st₂) → EX w b lev sc ρ' body st₁ Q' else Q .next ρ' st₁) : ES w b lev sc ρ (.While test body [] pos) st Q := by
  intro f A s R F I O Qc P
  refine wpAny_While (codeAny_whileLoop (fun n s' => ∃ ρ' st' h' tk', s' = { s with heap := h', toks := tk' } ∧ J n ρ' st' ∧ FrOK f sc h' ρ' ∧ Inv b st' h' ∧ Off b f st' ∧ StepF f st s.heap st' h') ?_ n₀ ⟨ρ, st, s.heap, s.toks, rfl, h0, F, I, O, Step.refl.toF⟩)
  rintro n s' ⟨ρ', st', h', tk', rfl, hJ, F', I', O', S'⟩
  refine wpAny_mono (turn n ρ' st' hJ f A { s with heap := h', toks := tk' } R F' I' O' (fun c s₁ => ∃ st₁ h₁ tk₁, s₁ = { s with heap := h₁, toks := tk₁ } ∧ Step st' h' st₁ h₁ ∧ Inv b st₁ h₁ ∧ (if c then ∀ Q' : AFlow → Ren → St → Prop, (∀ ρ₂ st₂, (∃ m, m < n ∧ J m ρ₂ st₂) → Q' .next ρ₂ st₂) → EX w b lev sc ρ' body st₁ Q' else Q .next ρ' st₁))
    fun c st₁ h₁ tk₁ S₁ I₁ q₁ => ⟨st₁, h₁, tk₁, rfl, S₁, I₁, q₁⟩) (fun c s₁ hs₁ => ?_) fun _ _ z => z.elim
  obtain ⟨st₁, h₁, tk₁, rfl, S₁, I₁, q₁⟩ := hs₁
  have F₁ := F'.step I' O' S₁
  have O₁ := F'.off O' S₁
  cases c with
  | false =>
    simp only [Bool.false_eq_true, if_false] at q₁ ⊢
    exact wpAny_execs_nil (P .next .next ρ' st₁ h₁ tk₁ (S'.trans S₁.toF) F₁ I₁ O₁ .next q₁)
  | true =>
    simp only [if_true] at q₁ ⊢
    refine wpAny_mono (q₁ (fun fl ρ₂ st₂ => fl = .next ∧ ∃ m, m < n ∧ J m ρ₂ st₂) (fun _ _ j => ⟨rfl, j⟩) f A { s with heap := h₁, toks := tk₁ } R F₁ I₁ O₁ (fun fl s₂ => ∃ ρ₂ st₂ h₂ tk₂, fl = .next ∧ s₂ = { s with heap := h₂, toks := tk₂ } ∧ StepF f st₁ h₁ st₂ h₂ ∧ FrOK f sc h₂ ρ₂ ∧ Inv b st₂ h₂ ∧ Off b f st₂ ∧ ∃ m, m < n ∧ J m ρ₂ st₂)
      fun fl afl ρ₂ st₂ h₂ tk₂ S₂ F₂ I₂ O₂ r₂ q₂ => by obtain ⟨rfl, q₂⟩ := q₂; cases r₂; exact ⟨ρ₂, st₂, h₂, tk₂, rfl, rfl, S₂, F₂, I₂, O₂, q₂⟩) (fun fl s₂ hs₂ => ?_) fun _ _ z => z.elim
    obtain ⟨ρ₂, st₂, h₂, tk₂, rfl, rfl, S₂, F₂, I₂, O₂, m, hm, hj⟩ := hs₂
    have ST := (S'.trans S₁.toF).trans S₂
    exact ⟨m, hm, ρ₂, st₂, h₂, tk₂, rfl, hj, F₂, I₂, O₂, ST⟩

/-! ## comprehensions -/
@[reducible] noncomputable def relab (scope sc : Scope) : Scope :=
  { scope with names := scope.names.map fun (n, k) => if (k == .free && sc.kind == .function && sc.names.lookup n == some .cell) then (n, .cell) else (n, k) }
@[reducible] noncomputable def capt (scope : Scope) (ρ : Ren) : Ren := fun x => if scope.names.lookup x = some .free then ρ x else none

theorem closure_of {env : Env} : ∀ (names : List (Str × NameKind)) (acc : List (Str × Addr)), (∀ x, (x, NameKind.free) ∈ names → ∃ c, env.cells.lookup x = some c) →
    ∃ cl, (forIn names acc fun (p : Str × NameKind) (cs : List (Str × Addr)) => (if (p.2 == .free) = true then do let a ← cellOf env p.1; pure (ForInStep.yield ((p.1, a) :: cs)) else pure (ForInStep.yield cs) : Sem _)) = pure cl ∧
      (∀ x c, cl.lookup x = some c → acc.lookup x = some c ∨ env.cells.lookup x = some c) ∧ (∀ x, ((x, NameKind.free) ∈ names ∨ ∃ c, acc.lookup x = some c) → ∃ c, cl.lookup x = some c)
  | [], acc, _ => ⟨acc, rfl, fun _ _ e => .inl e, fun x h => h.elim (fun m => by cases m) id⟩
  | (n, k) :: r, acc, h => by
    rw [List.forIn_cons]
    by_cases hk : (k == NameKind.free) = true
    · obtain ⟨c, hc⟩ := h n (by rw [beq_iff_eq] at hk; subst hk; exact .head _)
      obtain ⟨cl, e, h1, h2⟩ := closure_of (env := env) r ((n, c) :: acc) fun x hx => h x (.tail _ hx)
      refine ⟨cl, ?_, fun x c' e' => ?_, fun x hx => h2 x ?_⟩
      · simp only [hk, if_true]
        unfold cellOf
        rw [hc]
        exact e
      · rcases h1 x c' e' with h | h
        · rw [List.lookup_cons] at h
          cases hxn : x == n with
          | true => rw [hxn] at h; cases h; rw [beq_iff_eq] at hxn; subst hxn; exact .inr hc
          | false => rw [hxn] at h; exact .inl h
        · exact .inr h
      · rcases hx with hx | ⟨c', hx⟩
        · rcases List.mem_cons.mp hx with hx | hx
          · cases hx; exact .inr ⟨c, by rw [List.lookup_cons]; simp⟩
          · exact .inl hx
        · refine .inr ?_
          rw [List.lookup_cons]
          cases hxn : x == n with
          | true => exact ⟨c, rfl⟩
          | false => exact ⟨c', hx⟩
    · obtain ⟨cl, e, h1, h2⟩ := closure_of (env := env) r acc fun x hx => h x (.tail _ hx)
      refine ⟨cl, ?_, h1, fun x hx => h2 x ?_⟩
      · simp only [hk]
        exact e
      · rcases hx with hx | hx
        · rcases List.mem_cons.mp hx with hx | hx
          · cases hx; exact (hk rfl).elim
          · exact .inl hx
        · exact .inr hx

theorem iter_again {A : Around} {s : Shared} {I : Addr} {x : AV} {i : Nat} (c : Cur I s.heap x i) {Qc : Value → Shared → Prop} {E : Value → Shared → Prop} (h : Qc (.ref I) s) : wpAny (model Pg w) A (pyIter (.ref I)) Qc E s := by
  cases c with
  | list hi => exact wpAny_pyIter_listiter hi h
  | tup hi _ _ => exact wpAny_pyIter_tupleiter hi h
  | rng _ hi => exact wpAny_pyIter_rangeiter hi h

noncomputable abbrev testsT (ifs : List Expr) (env : Env) : Sem Bool := forIn ifs true fun c r => if r = true then do let ok ← isTrue c env (eval c env); pure (ForInStep.yield ok) else pure (ForInStep.yield r)
noncomputable abbrev CT (w : World) (b : Heap) (lev : Nat) (sc : Scope) (ρ : Ren) (ifs : List Expr) (st : St) (Q : Bool → St → Prop) : Prop := BJ w b lev sc ρ (fun env => testsT ifs env) st Q
theorem CT_nil {Q : Bool → St → Prop} (q : Q true st) : CT w b lev sc ρ [] st Q := fun _ _ s _ _ I _ _ P => wpAny_tests_nil (P true st s.heap s.toks Step.refl I q)
theorem CT_one {e : Expr} {Q : Bool → St → Prop} (h : TJ w b lev sc ρ e st Q) : CT w b lev sc ρ [e] st Q := fun f A s R F I O Qc P => wpAny_tests_one (h f A s R F I O Qc P)

/-- what is so when all the turns are done -/
structure CompFin (b : Heap) (f : FId) (sc : Scope) (ρ : Ren) (st : St) (h : Heap) (D C : Addr) (ys : List AV) (st' : St) (h' : Heap) : Prop where
  S : Step st h (upd st' D (.list ys)) h'
  I : Inv b (upd st' D (.list ys)) h'
  F : FrOK f sc h' ρ
  O : Off b f (upd st' D (.list ys))
  nD : st' D = none
  nC : st' C = none
  DC : D ≠ C
  own : ¬ Own f C
  bC : b.get? C = none
  new : ∀ a o, h.get? a = some o → st a = none → a ≠ C
  ns : ∃ m, h'.Ns C m

noncomputable abbrev CompTurns (w : World) (b : Heap) (lev : Nat) (sc : Scope) (ρ : Ren) (scope : Scope) (x : Str) (ifs : List Expr) (elt : Expr) (src : AV) (xs : List AV) (J : Nat → List AV → St → Prop) (st₁ : St) (Fin : List AV → St → Prop) : Prop :=
  (∀ i ys st', J i ys st' → ItemsOf src st' xs) ∧ J 0 [] st₁ ∧ xs.length ≤ sizeLine ∧
  (∀ i y ys st', xs[i]? = some y → J i ys st' → CT w b lev (relab scope sc) ((capt scope ρ).set x y) ifs st' fun c st₂ => if c then EV w b lev (relab scope sc) ((capt scope ρ).set x y) elt st₂ (fun v st₃ => J (i + 1) (ys ++ [v]) st₃) else J (i + 1) ys st₂) ∧
  (∀ ys st', J xs.length ys st' → Fin ys st')

end

/-! F11 -/
section

variable {w : World} {b : Heap} {lev : Nat} {sc : Scope} {ρ : Ren} {st : St}

/-! ## stores in order -/
noncomputable def Ext (st st' : St) : Prop := ∀ a o, st a = some o → st' a = some o
noncomputable def Ch (t : Addr) (st st' : St) : Prop := ∀ a o, a ≠ t → st a = some o → st' a = some o
theorem Ext.refl {st : St} : Ext st st := fun _ _ e => e
theorem Ext.trans {st st₁ st₂ : St} (x : Ext st st₁) (y : Ext st₁ st₂) : Ext st st₂ := fun a o e => y a o (x a o e)
theorem Ext.new {st : St} {d : Addr} {o : AObj} (n : st d = none) : Ext st (upd st d o) := fun a x e => by rw [upd_ne (fun q => by subst q; rw [n] at e; cases e)]; exact e
theorem Ext.ch {st st' : St} (x : Ext st st') (t : Addr) : Ch t st st' := fun a o _ e => x a o e
theorem Ch.refl {t : Addr} {st : St} : Ch t st st := fun _ _ _ e => e
theorem Ch.trans {t : Addr} {st st₁ st₂ : St} (x : Ch t st st₁) (y : Ch t st₁ st₂) : Ch t st st₂ := fun a o n e => y a o n (x a o n e)
theorem Ch.upd {st : St} (t : Addr) (o : AObj) : Ch t st (upd st t o) := fun a x n e => by rw [upd_ne n]; exact e
theorem ne_of {st : St} {a d : Addr} {o : AObj} (e : st a = some o) (n : st d = none) : a ≠ d := fun q => by subst q; rw [n] at e; cases e
theorem upd_old {st : St} {a d : Addr} {o x : AObj} (n : st d = none) (e : st a = some o) : upd st d x a = some o := Ext.new n a o e
theorem upd_oth {st : St} {a d : Addr} {o x : AObj} (n : a ≠ d) (e : st a = some o) : upd st d x a = some o := by rw [upd_ne n]; exact e
theorem upd_none {st : St} {a d : Addr} {x : AObj} (n : a ≠ d) (e : st a = none) : upd st d x a = none := by rw [upd_ne n]; exact e

/-! ## slices -/
theorem pick_to {xs : List AV} {k : Int} (h0 : 0 ≤ k) (us : List Value) (hh : Heap) (r : RepAll hh us xs) : RepAll hh (slicePick us.toArray none (some k) none).toList (xs.take k.toNat) := by
  have e : PySem.sliceBounds none (some k) none us.toArray.size = (((0 : Nat) : Int), ((min k.toNat us.toArray.size : Nat) : Int), 1) := by
    simp only [sliceBounds, Option.getD_none, show (1 : Int) > 0 by decide, if_true, if_neg (show ¬ (k < 0) by omega)]
    congr 1
    congr 1
    omega
  rw [kmk_pick_nat _ e]
  show RepAll hh ((us.drop 0).take (min k.toNat us.toArray.size - 0)) _
  rw [List.drop_zero, Nat.sub_zero, List.size_toArray, kmk_take_min]
  exact r.take _
theorem pick_from' {xs : List AV} {k : Int} (h0 : 0 ≤ k) (us : List Value) (hh : Heap) (r : RepAll hh us xs) : RepAll hh (slicePick us.toArray (some k) none none).toList (xs.drop k.toNat) := by
  have e : PySem.sliceBounds (some k) none none us.toArray.size = (((min k.toNat us.toArray.size : Nat) : Int), ((us.toArray.size : Nat) : Int), 1) := by
    simp only [sliceBounds, Option.getD_none, show (1 : Int) > 0 by decide, if_true, if_neg (show ¬ (k < 0) by omega)]
    congr 1
    omega
  rw [kmk_pick_nat _ e]
  show RepAll hh ((us.drop (min k.toNat us.toArray.size)).take (us.toArray.size - min k.toNat us.toArray.size)) _
  rw [List.size_toArray, kmk_drop_min, List.take_of_length_le (by rw [List.length_drop]; omega)]
  exact r.drop _
theorem EV_SliceTo {value hi : Expr} {p pos : Pos} {Q : AV → St → Prop}
    (h : EV w b lev sc ρ value st fun x st₁ => ∃ a xs k, x = .obj a ∧ st₁ a = some (.list xs) ∧ EV w b lev sc ρ hi st₁ (fun y st' => y = .int k ∧ st' = st₁) ∧ 0 ≤ k ∧ xs.length ≤ sizeLine ∧ ∀ c, st₁ c = none → Q (.obj c) (upd st₁ c (.list (xs.take k.toNat)))) : EV w b lev sc ρ (.Subscript value (.Slice none (some hi) none p) pos) st Q := by
  refine EV_SliceList ?_
  intro f A s R F I O Qc P
  refine h f A s R F I O Qc fun v av st' h' tk' S I' r q => ?_
  obtain ⟨a, xs, k, e, ea, hk, h0, hz, hq⟩ := q
  exact P v av st' h' tk' S I' r ⟨a, xs, none, some k, xs.take k.toNat, e, ea, .none, .some hk, hz, pick_to h0, hq⟩
theorem sliceApplied_k {A : Around} {s : Shared} {sl : Addr} {k : Int} {a n : Nat} {u : Tok} {Q : Int × Int × Nat → Shared → Prop} {E : Value → Shared → Prop} (hs : s.heap.IsSliceOf sl (.int k u) .none .none) (hadj : Builtin.Slice.sliceAdjust (some k) none 1 (n : Int) = ((a : Int), (n : Int))) (ha : a ≤ n) (h : Q ((a : Int), 1, n - a) s) :
    wpAny (model Pg w) A (Builtin.Slice.sliceApplied (.ref sl) (pure (n : Int))) Q E s := by
  obtain ⟨os, hos, hcs, hds⟩ := id hs
  unfold Builtin.Slice.sliceApplied Builtin.Slice.sliceFields
  refine wpAny_bind (wpAny_bind (wpAny_field hos hds (x := .int k u) rfl (wpAny_bind (wpAny_field hos hds (x := .none) rfl (wpAny_bind (wpAny_field hos hds (x := .none) rfl (wpAny_pure ?_)))))))
  refine wpAny_bind (slicePart_none ?_)
  show wpAny _ _ (if ((1 : Int) == 0) = true then _ else _) _ _ s
  rw [if_neg (by decide)]
  refine wpAny_bind (slicePart_int (wpAny_bind (slicePart_none (wpAny_bind (wpAny_pure ?_)))))
  show wpAny _ _ (match Builtin.Slice.sliceAdjust (some k) none 1 (n : Int) with | (lo, hi) => pure (lo, (1 : Int), Builtin.Slice.slicePlaces lo hi 1)) _ _ s
  rw [hadj]
  show wpAny _ _ (pure ((a : Int), (1 : Int), Builtin.Slice.slicePlaces (a : Int) (n : Int) 1)) _ _ s
  rw [places_from a n ha]
  exact wpAny_pure h
theorem getItem_tuple_k {A : Around} {s : Shared} {E : Value → Shared → Prop} {t sl : Addr} {items : Array Value} {k : Int} {a : Nat} {u : Tok} {Q : Value → Shared → Prop} (ht : IsTup s.heap t items) (hs : s.heap.IsSliceOf sl (.int k u) .none .none) (hadj : Builtin.Slice.sliceAdjust (some k) none 1 (items.size : Int) = ((a : Int), (items.size : Int))) (h1 : 1 ≤ a) (ha : a ≤ items.size)
    (h : Q (.ref s.heap.objs.size) { s with heap := s.heap.push { cls := .type "tuple", data := .seq (items.toList.drop a).toArray } })
    (hsz : items.size ≤ sizeLine) : wpAny (model Pg w) A (getItem (.ref t) (.ref sl)) Q E s := by
  have hdrop : sizeOk (.seq (items.toList.drop a).toArray) := by
    show (items.toList.drop a).toArray.size ≤ sizeLine
    rw [List.size_toArray, List.length_drop, Array.length_toList]
    omega
  obtain ⟨os, hos, hcs, hds⟩ := id hs
  have hTs : s.TypeIs (.ref sl) "slice" := ⟨os, hos, hcs⟩
  unfold getItem
  try with_reducible refine wpAny_holding ?_
  first | refine wpAny_bind (wpAny_pure ?_) | skip
  refine wpAny_bind (wpAny_sequenceKey ht.typeIs (by decide) ?_)
  refine wpAny_bind (wpAny_callSpecial?_slot (name := Str.ofString "__getitem__") ht.typeIs slot_tuple_getitem
    (wpAny_call_entry slot_tuple_getitem ht.typeIs entry_tuple_getitem ?_ (args_tuple_getitem _ _)))
  show wpAny _ _ (Builtin.Tuple.tupleItemsOf (.ref t) >>= _) _ _ s
  refine wpAny_bind (tupleItemsOf_ ht ?_)
  refine wpAny_bind (wpAny_typeOf hTs ?_)
  rw [if_pos (by decide)]
  refine wpAny_bind (sliceApplied_k hs hadj ha ?_)
  have hno : ¬ (((a : Int) == 0 && (1 : Int) == 1 && (items.size - a) == items.size) = true) := by
    have : ((a : Int) == 0) = false := by rw [beq_eq_false_iff_ne]; omega
    rw [this]; simp
  show wpAny _ _ (if ((a : Int) == 0 && (1 : Int) == 1 && (items.size - a) == items.size) = true then _ else _) _ _ s
  rw [if_neg hno, PyProof.Rows.pick_from items a ha]
  first
    | exact wpAny_bind (m := Builtin.Tuple.tupleExact _) (wpAny_newObj_type (wpAny_pure ⟨_, rfl, wpAny_pure h⟩) hdrop)
    | exact wpAny_bind (m := Builtin.Tuple.tupleExact _) (wpAny_newObj_type (wpAny_bind (wpAny_pure (wpAny_pure ⟨_, rfl, wpAny_pure h⟩))) hdrop)
    | exact wpAny_bind (wpAny_bind (m := Builtin.Tuple.tupleExact _) (wpAny_newObj_type (wpAny_pure (wpAny_pure ⟨_, rfl, wpAny_pure h⟩)) hdrop))
    | exact wpAny_bind (wpAny_bind (m := Builtin.Tuple.tupleExact _) (wpAny_newObj_type (wpAny_pure ⟨_, rfl, wpAny_pure h⟩) hdrop))
/-! ## list(..) -/
theorem C_list {a : Addr} {xs : List AV} {Q : AV → St → Prop} (ea : st a = some (.list xs)) (hz : xs.length ≤ sizeLine) (q : ∀ d, st d = none → Q (.obj d) (upd st d (.list xs))) : CallOk w b lev (.type "list") [.obj a] st Q := by
  rintro A s vs R I (_ | ⟨⟨⟩, ⟨⟩⟩) Qc P
  obtain ⟨us, n, e, r⟩ := I.rep _ _ ea
  refine call_list_seq a (.inl rfl) e rfl rfl (fun h' c' k e' => ?_) (by simp [r.length]; exact hz)
  have hn := I.dead (get_size (h := s.heap))
  have kt : KeepT s.heap h' := fun _ _ _ e => k _ _ e
  have I' : Inv b st h' := ⟨fun a o e => (I.rep a o e).keep kt (fun o e => k _ _ e), fun a o e => k _ _ (I.base a o e), I.off⟩
  refine P _ (.obj _) (upd st s.heap.objs.size (.list xs)) h' s.toks (fun a o e g => ⟨k a o e, ?_⟩) ⟨fun a y e => ?_, I'.base, fun a o' e => ?_⟩ (.obj _) (q _ hn)
  · exact upd_none (Nat.ne_of_lt (Heap.lt_size e)) g
  · by_cases ha : a = s.heap.objs.size
    · subst ha; rw [upd_self] at e; cases e; exact ⟨us, c', e', r.keep kt⟩
    · rw [upd_ne ha] at e; exact I'.rep a y e
  · exact upd_none (Nat.ne_of_lt (Heap.lt_size (I.base a o' e))) (I'.off a o' e)
theorem C_listT {xs : List AV} {Q : AV → St → Prop} (hz : xs.length ≤ sizeLine) (q : ∀ d, st d = none → Q (.obj d) (upd st d (.list xs))) : CallOk w b lev (.type "list") [.tup xs] st Q := by
  rintro A s vs R I (_ | ⟨rx, ⟨⟩⟩) Qc P
  cases rx with
  | @tup t us n _ e r =>
  refine call_list_seq t (.inr rfl) e rfl rfl (fun h' c' k e' => ?_) (by simp [r.length]; exact hz)
  have hn := I.dead (get_size (h := s.heap))
  have kt : KeepT s.heap h' := fun _ _ _ e => k _ _ e
  have I' : Inv b st h' := ⟨fun a o e => (I.rep a o e).keep kt (fun o e => k _ _ e), fun a o e => k _ _ (I.base a o e), I.off⟩
  refine P _ (.obj _) (upd st s.heap.objs.size (.list xs)) h' s.toks (fun a o e g => ⟨k a o e, ?_⟩) ⟨fun a y e => ?_, I'.base, fun a o' e => ?_⟩ (.obj _) (q _ hn)
  · exact upd_none (Nat.ne_of_lt (Heap.lt_size e)) g
  · by_cases ha : a = s.heap.objs.size
    · subst ha; rw [upd_self] at e; cases e; exact ⟨us, c', e', r.keep kt⟩
    · rw [upd_ne ha] at e; exact I'.rep a y e
  · exact upd_none (Nat.ne_of_lt (Heap.lt_size (I.base a o' e))) (I'.off a o' e)
end

/-! F12 -/
section

variable {w : World} {b : Heap} {lev : Nat} {sc : Scope} {ρ : Ren} {st : St}

theorem ite_tt {c : Bool} {P R : Prop} (h : c = true) (p : P) : if c = true then P else R := by rw [if_pos h]; exact p
theorem ite_ff {c : Bool} {P R : Prop} (h : c = false) (p : R) : if c = true then P else R := by rw [if_neg (by rw [h]; decide)]; exact p
theorem ite_bb {c : Bool} {P R : Prop} (p : c = true → P) (r : c = false → R) : if c = true then P else R := by
  cases hc : c with
  | true => rw [if_pos rfl]; exact p hc
  | false => rw [if_neg (by decide)]; exact r hc

theorem CodeOk.at {l lev : Nat} {f : Value} {args : List AV} {Q : AV → St → Prop} (h : CodeOk w b l f args st Q) (hl : l ≤ lev := by omega) : CallOk w b lev f args st Q :=
  CodeOk.call fun A s vs R I r RR P => h A s vs (R.le hl) I r RR P

theorem EV_nm2 {x : Str} {pos : Pos} {av : AV} {Q : AV → St → Prop} (h : ρ x = some av) (q : Q av st) (hk : isLoc sc x = true) (hd : (x == ("__debug__" : Str)) = false) (hc : (x == ("__classdict__" : Str)) = false) : EV w b lev sc ρ (.Name x pos) st Q := EV_name h q hk hd hc
theorem fin_next {Q : AFlow → Ren → St → Prop} {J : Ren → St → Prop} (h : ∀ ρ st, J ρ st → Q .next ρ st) {ρ : Ren} {st : St} (j : J ρ st) : Q .next ρ st := h ρ st j
theorem Ren.hit {x : Str} {v : AV} : (ρ.set x v) x = some v := if_pos rfl
theorem Ren.miss {x y : Str} {v av : AV} (e : ρ y = some av) (h : (y == x) = false) : (ρ.set x v) y = some av := by
  unfold Ren.set; rw [if_neg fun q => by rw [q] at h; simp at h]; exact e
theorem Ren.sets_nil (ρ : Ren) : ρ.sets [] = ρ := rfl
theorem Ren.sets_cons (ρ : Ren) (x : Str) (v : AV) (r : List (Str × AV)) : ρ.sets ((x, v) :: r) = (ρ.set x v).sets r := rfl
theorem EV_nm {x : Str} {pos : Pos} {Q : AV → St → Prop} (h : ∃ av, ρ x = some av ∧ Q av st)
    (hk : isLoc sc x = true := by decide +kernel) (hd : (x == ("__debug__" : Str)) = false := by decide +kernel) (hc : (x == ("__classdict__" : Str)) = false := by decide +kernel) : EV w b lev sc ρ (.Name x pos) st Q := by
  obtain ⟨av, e, q⟩ := h
  exact EV_name e q hk hd hc

noncomputable def pyIdx (xs : List AV) (k : Int) : Option AV := (seqIndex? k xs.length).bind (xs[·]?)
theorem GETS_t {value slice : Expr} {xs : List AV} {k : Int} {Q : AV → St → Prop} (h : ∃ x, pyIdx xs k = some x ∧ Q x st)
    (hlo : -(2 ^ 63) ≤ k := by decide) (hhi : k < 2 ^ 63 := by decide)
    (hs : ∀ o i, subscripted slice false o i = operate [o, i] (getItem o i) := by intro _ _; with_unfolding_all rfl) : GETS w b lev value slice (.tup xs) (.int k) st Q := by
  obtain ⟨x, e, q⟩ := h
  unfold pyIdx at e
  obtain ⟨j, hj, hx⟩ := Option.bind_eq_some_iff.mp e
  exact GETS_tup hj hx q hlo hhi hs
theorem GETS_l {value slice : Expr} {a : Addr} {k : Int} {Q : AV → St → Prop} (h : ∃ xs, st a = some (.list xs) ∧ ∃ x, xs[k.toNat]? = some x ∧ Q x st) (h0 : 0 ≤ k := by decide)
    (hhi : k < 2 ^ 63 := by decide)
    (hs : ∀ o i, subscripted slice false o i = operate [o, i] (getItem o i) := by intro _ _; with_unfolding_all rfl) : GETS w b lev value slice (.obj a) (.int k) st Q := by
  obtain ⟨xs, ea, x, hx, q⟩ := h
  exact GETS_list ea h0 hx q hhi hs
/-- calls of a name of the text -/
theorem EV_CallK (G : Gd w b) {x : Str} {xp pos : Pos} {e : Expr} {es : List Expr} {v : Value} {Q : AV → St → Prop}
    (g : nsIn (hd.heap_1 w.params) mainGlobals x = some (some v)) (hk : keepIn (hd.heap_1 w.params) v = true)
    (h : IJ w b lev sc ρ pos (e :: es) st fun xs st₂ => CallOk w b lev v xs st₂ Q)
    (hx : sc.names.lookup x = some .globalImplicit := by decide +kernel) (hd : (x == ("__debug__" : Str)) = false := by decide +kernel)
    (he : ∀ env, eval (.Call (.Name x xp) (e :: es) [] pos) env = (do callWith pos (← eval (.Name x xp) env) [] (backTo pos (starEach (e :: es) env)) (backToKw pos (keywordEach [] env))) := by intro _; with_unfolding_all rfl)
    (h1 : ∀ env, starEach (e :: es) env = (false, eval e env) :: starEach es env := by intro _; with_unfolding_all rfl) (hp : ∀ env, (backTo pos (starEach es env)).any (·.1) = false := by intro _; with_unfolding_all rfl) : EV w b lev sc ρ (.Call (.Name x xp) (e :: es) [] pos) st Q :=
  EV_Call G (EV_globV G g ⟨v, rfl, hk, h⟩ hx hd) he h1 hp
theorem EV_CallK0 (G : Gd w b) {x : Str} {xp pos : Pos} {v : Value} {Q : AV → St → Prop}
    (g : nsIn (hd.heap_1 w.params) mainGlobals x = some (some v)) (hk : keepIn (hd.heap_1 w.params) v = true)
    (h : CallOk w b lev v [] st Q)
    (hx : sc.names.lookup x = some .globalImplicit := by decide +kernel) (hd : (x == ("__debug__" : Str)) = false := by decide +kernel)
    (he : ∀ env, eval (.Call (.Name x xp) [] [] pos) env = (do callWith pos (← eval (.Name x xp) env) [] (backTo pos (starEach [] env)) (backToKw pos (keywordEach [] env))) := by intro _; with_unfolding_all rfl) : EV w b lev sc ρ (.Call (.Name x xp) [] [] pos) st Q :=
  EV_Call0 G (EV_globV G g ⟨v, rfl, hk, h⟩ hx hd) he
theorem EV_CallBu (G : Gd w b) {x : Str} {xp pos : Pos} {e : Expr} {es : List Expr} {id : String} {Q : AV → St → Prop}
    (g : nsIn (hd.heap_1 w.params) mainGlobals x = some none) (hv : bootBuiltins x = some (.builtin id)) (hn : x ≠ "__name__")
    (h : IJ w b lev sc ρ pos (e :: es) st fun xs st₂ => CallOk w b lev (.builtin id) xs st₂ Q)
    (hx : sc.names.lookup x = some .globalImplicit := by decide +kernel) (hd : (x == ("__debug__" : Str)) = false := by decide +kernel)
    (he : ∀ env, eval (.Call (.Name x xp) (e :: es) [] pos) env = (do callWith pos (← eval (.Name x xp) env) [] (backTo pos (starEach (e :: es) env)) (backToKw pos (keywordEach [] env))) := by intro _; with_unfolding_all rfl)
    (h1 : ∀ env, starEach (e :: es) env = (false, eval e env) :: starEach es env := by intro _; with_unfolding_all rfl) (hp : ∀ env, (backTo pos (starEach es env)).any (·.1) = false := by intro _; with_unfolding_all rfl) : EV w b lev sc ρ (.Call (.Name x xp) (e :: es) [] pos) st Q :=
  EV_CallB (EV_built G g hv hn ⟨id, rfl, h⟩ hx hd) he h1 hp
theorem EV_CallTy (G : Gd w b) {x : Str} {xp pos : Pos} {e : Expr} {es : List Expr} {T : String} {Q : AV → St → Prop}
    (g : nsIn (hd.heap_1 w.params) mainGlobals x = some none) (hv : bootBuiltins x = some (.type T)) (hn : x ≠ "__name__")
    (h : IJ w b lev sc ρ pos (e :: es) st fun xs st₂ => CallOk w b lev (.type T) xs st₂ Q)
    (hx : sc.names.lookup x = some .globalImplicit := by decide +kernel) (hd : (x == ("__debug__" : Str)) = false := by decide +kernel)
    (he : ∀ env, eval (.Call (.Name x xp) (e :: es) [] pos) env = (do callWith pos (← eval (.Name x xp) env) [] (backTo pos (starEach (e :: es) env)) (backToKw pos (keywordEach [] env))) := by intro _; with_unfolding_all rfl)
    (h1 : ∀ env, starEach (e :: es) env = (false, eval e env) :: starEach es env := by intro _; with_unfolding_all rfl) (hp : ∀ env, (backTo pos (starEach es env)).any (·.1) = false := by intro _; with_unfolding_all rfl) : EV w b lev sc ρ (.Call (.Name x xp) (e :: es) [] pos) st Q :=
  EV_CallT (EV_built G g hv hn ⟨T, rfl, h⟩ hx hd) he h1 hp
noncomputable def namesOf (es : List Expr) : List Str := es.filterMap fun | .Name x _ => some x | _ => none
theorem ES_UnpA {elts : List Expr} {k : Nat} {tpos pos : Pos} {e : Expr} {Q : AFlow → Ren → St → Prop}
    (h : EV w b lev sc ρ e st fun v st₁ => ∃ xs, v = .tup xs ∧ xs.length = (namesOf elts).length ∧ Q .next (ρ.sets ((namesOf elts).zip xs)) st₁)
    (hk : (namesOf elts).all (isSt sc) = true := by decide +kernel) (hs : ∀ f : FId, swapsWithSole [.Tuple elts k tpos] e pos.line (f.env sc) = pure false := by intro _; with_unfolding_all rfl) (hw : ∀ f : FId, swappedStores [.Tuple elts k tpos] e (f.env sc) = pure none := by intro _; with_unfolding_all rfl)
    (hn : ∀ env, ((assignEach elts env).map (·.2)) = (namesOf elts).map fun x => fun v => (do standAt (match elts.find? (fun | .Name y _ => y == x | _ => false) with | some (.Name _ p) => p | _ => tpos); bindName env x v) := by intro _; with_unfolding_all rfl)
    (hstar : ∀ env, (assignEach elts env).findIdx? (·.1) = none := by intro _; with_unfolding_all rfl) : ES w b lev sc ρ (.Assign [.Tuple elts k tpos] e pos) st Q := ES_Unpack (namesOf elts) h hk hs hw hn hstar
theorem ES_UnpB {elts : List Expr} {k : Nat} {tpos pos : Pos} {e : Expr} {Q : AFlow → Ren → St → Prop}
    (h : EV w b lev sc ρ e st fun v st₁ => ∃ xs, v = .tup xs ∧ xs.length = (namesOf elts).length ∧ Q .next (ρ.sets ((namesOf elts).reverse.zip xs.reverse)) st₁)
    (hk : (namesOf elts).reverse.all (isSt sc) = true := by decide +kernel) (hs : ∀ f : FId, swapsWithSole [.Tuple elts k tpos] e pos.line (f.env sc) = pure false := by intro _; with_unfolding_all rfl) (hw : ∀ f : FId, swappedStores [.Tuple elts k tpos] e (f.env sc) = pure (some (namesOf elts)) := by intro _; with_unfolding_all rfl) : ES w b lev sc ρ (.Assign [.Tuple elts k tpos] e pos) st Q := ES_Unpack' (namesOf elts) h hk hs hw

theorem asg_two {x1 x2 : Str} {p1 p2 p : Pos} {k : Nat} {y1 y2 : AV} (hk : ([x1, x2] : List Str).all (isSt sc) = true := by decide +kernel)
    (hn : ∀ env, ((assignEach [.Name x1 p1, .Name x2 p2] env).map (·.2)) = ([x1, x2] : List Str).map fun x => fun v => (do standAt (match ([.Name x1 p1, .Name x2 p2] : List Expr).find? (fun | .Name y _ => y == x | _ => false) with | some (.Name _ p) => p | _ => p); bindName env x v) := by intro _; with_unfolding_all rfl)
    (hstar : ∀ env, (assignEach [.Name x1 p1, .Name x2 p2] env).findIdx? (·.1) = none := by intro _; with_unfolding_all rfl) : AsgOK w b lev sc (.Tuple [.Name x1 p1, .Name x2 p2] k p) (.tup [y1, y2]) ρ ((ρ.set x1 y1).set x2 y2) := asg_tup [x1, x2] rfl hk hn hstar
theorem namesOf_nil : namesOf [] = [] := rfl
theorem namesOf_name (x : Str) (p : Pos) (es : List Expr) : namesOf (.Name x p :: es) = x :: namesOf es := rfl

/-! ## the pure side -/
noncomputable abbrev Pt := Int × Int
@[reducible] noncomputable def pav (p : Pt) : AV := .tup [.int p.1, .int p.2]
noncomputable def half (p q : Pt) : Pt := ((p.1 + q.1).fdiv 2, (p.2 + q.2).fdiv 2)
structure Quad where
  a : Pt
  b : Pt
  c : Pt
  d : Pt
@[reducible] noncomputable def Quad.av (q : Quad) : AV := .tup [pav q.a, pav q.b, pav q.c, pav q.d]
noncomputable def Quad.mid (q : Quad) : Pt := half (half (half q.a q.b) (half q.b q.c)) (half (half q.b q.c) (half q.c q.d))
noncomputable def Quad.ahead (q : Quad) : Quad := ⟨q.a, half q.a q.b, half (half q.a q.b) (half q.b q.c), q.mid⟩
noncomputable def Quad.behind (q : Quad) : Quad := ⟨q.mid, half (half q.b q.c) (half q.c q.d), half q.c q.d, q.d⟩
noncomputable def absI (x : Int) : Int := if x < 0 then -x else x
noncomputable def maxI (x y : Int) : Int := if y > x then y else x
noncomputable def far1 (a b c d : Int) : Int := maxI (absI (3 * b - 2 * a - d)) (absI (3 * c - 2 * d - a)) ^ 2
noncomputable def Quad.far (q : Quad) : Int := far1 q.a.1 q.b.1 q.c.1 q.d.1 + far1 q.a.2 q.b.2 q.c.2 q.d.2
noncomputable def Quad.flat (q : Quad) (fl : Int) : Bool := decide (q.far ≤ 16 * fl ^ 2)
noncomputable def ends : Nat → Quad → Int → List Pt
  | 0, q, _ => [q.d]
  | k + 1, q, fl => if q.flat fl then [q.d] else ends k q.ahead fl ++ ends k q.behind fl
noncomputable def Small (p : Pt) : Prop := p.1.natAbs ≤ 2 ^ 40 ∧ p.2.natAbs ≤ 2 ^ 40
structure Quad.Small (q : Quad) : Prop where
  a : Mine.Small q.a
  b : Mine.Small q.b
  c : Mine.Small q.c
  d : Mine.Small q.d
end

/-! F13 -/
section

variable {w : World} {b : Heap} {lev : Nat} {sc : Scope} {ρ : Ren} {st : St}

@[reducible] noncomputable def plOf (o : Expr) (env : Env) : Sem Bool := do return (← importBound o env).getD true
@[reducible] noncomputable def methEq (o : Expr) (name : Str) (apos pos : Pos) (es : List Expr) : Prop := ∀ env, eval (.Call (.Attribute o name apos) es [] pos) env = (do
      let ov ← eval o env
      standAt apos.atName
      let (f, first) ← holding [ov] (getMethod ov name (plOf o env))
      callWith pos f first (backTo pos (starEach es env)) [])

theorem EV_append {o e : Expr} {apos pos : Pos} {Q : AV → St → Prop}
    (h : EV w b lev sc ρ o st fun x st₁ => ∃ a xs, x = .obj a ∧ st₁ a = some (.list xs) ∧ EV w b lev sc ρ e st₁ fun y st₂ => ∃ xs', st₂ a = some (.list xs') ∧ xs'.length ≤ sizeLine ∧ Q .none (upd st₂ a (.list (xs' ++ [y]))))
    (he : methEq o "append" apos pos [e] := by intro _; with_unfolding_all rfl) (h1 : ∀ env, starEach [e] env = (false, eval e env) :: starEach [] env := by intro _; with_unfolding_all rfl) : EV w b lev sc ρ (.Call (.Attribute o "append" apos) [e] [] pos) st Q := by
  refine EV_MethL PySem.F.slot_list_append PySem.F.type_list_append ?_ (plOf o) he h1 (fun _ => rfl)
  intro f A s R F I O Qc P
  refine h f A s R F I O Qc fun v av st' h' tk' S I' r q => ?_
  obtain ⟨a, xs, rfl, ea, hy⟩ := q
  refine P v _ st' h' tk' S I' r ⟨a, xs, rfl, ea, IJ_cons ?_ h1⟩
  intro f A s R F I O Qc P
  refine hy f A s R F I O Qc fun v av st' h' tk' S I' r q => ?_
  obtain ⟨xs', ea', hz, hq⟩ := q
  exact P v _ st' h' tk' S I' r (IJ_nil (C_append ea' hz hq))
theorem EV_pop {o : Expr} {apos pos : Pos} {Q : AV → St → Prop}
    (h : EV w b lev sc ρ o st fun x st₁ => ∃ a xs y, x = .obj a ∧ st₁ a = some (.list (xs ++ [y])) ∧ xs.length < sizeLine ∧ Q y (upd st₁ a (.list xs)))
    (he : methEq o "pop" apos pos [] := by intro _; with_unfolding_all rfl) : EV w b lev sc ρ (.Call (.Attribute o "pop" apos) [] [] pos) st Q := by
  refine EV_MethL0 PySem.F.slot_list_pop PySem.F.type_list_pop ?_ (plOf o) he
  intro f A s R F I O Qc P
  refine h f A s R F I O Qc fun v av st' h' tk' S I' r q => ?_
  obtain ⟨a, xs, y, rfl, ea, hz, hq⟩ := q
  exact P v _ st' h' tk' S I' r ⟨a, _, rfl, ea, C_pop ea hz hq⟩
theorem EV_extend {o e : Expr} {apos pos : Pos} {Q : AV → St → Prop}
    (h : EV w b lev sc ρ o st fun x st₁ => ∃ a xs, x = .obj a ∧ st₁ a = some (.list xs) ∧ EV w b lev sc ρ e st₁ fun y st₂ => ∃ c xs' ys, y = .obj c ∧ st₂ a = some (.list xs') ∧ st₂ c = some (.list ys) ∧ xs'.length + ys.length ≤ sizeLine ∧ Q .none (upd st₂ a (.list (xs' ++ ys))))
    (he : methEq o "extend" apos pos [e] := by intro _; with_unfolding_all rfl) (h1 : ∀ env, starEach [e] env = (false, eval e env) :: starEach [] env := by intro _; with_unfolding_all rfl) : EV w b lev sc ρ (.Call (.Attribute o "extend" apos) [e] [] pos) st Q := by
  refine EV_MethL PySem.F.slot_list_extend PySem.F.type_list_extend ?_ (plOf o) he h1 (fun _ => rfl)
  intro f A s R F I O Qc P
  refine h f A s R F I O Qc fun v av st' h' tk' S I' r q => ?_
  obtain ⟨a, xs, rfl, ea, hy⟩ := q
  refine P v _ st' h' tk' S I' r ⟨a, xs, rfl, ea, IJ_cons ?_ h1⟩
  intro f A s R F I O Qc P
  refine hy f A s R F I O Qc fun v av st' h' tk' S I' r q => ?_
  obtain ⟨c, xs', ys, rfl, ea', ec, hz, hq⟩ := q
  exact P v _ st' h' tk' S I' r (IJ_nil (C_extend ea' ec hz hq))

/-! ## methods of the class -/
structure IsPath (w : World) (st : St) (x C dx : Addr) (fs : List (Str × AV)) : Prop where
  x : st x = some (.inst C dx)
  d : st dx = some (.dict fs)

/-! ## lists against the empty one -/
theorem dats_map {α : Type} {n : Nat} {f : α → AV} {l : List α} (h : ∀ x ∈ l, (f x).dat n = true) : AV.dats n (l.map f) = true := by
  induction l with
  | nil => rfl
  | cons x r ih => simp only [List.map_cons, AV.dats, Bool.and_eq_true]; exact ⟨h x (.head _), ih fun y hy => h y (.tail _ hy)⟩
theorem beqs_nil (xs : List AV) : AV.beqs xs [] = xs.isEmpty := by cases xs <;> rfl
theorem TJ_neNil {l : Expr} {p pos : Pos} {Q : Bool → St → Prop}
    (h : EV w b lev sc ρ l st fun x st₁ => ∃ a xs, x = .obj a ∧ st₁ a = some (.list xs) ∧ AV.dats 8 xs = true ∧ ∀ d, st₁ d = none → Q (!xs.isEmpty) (upd st₁ d (.list []))) : TJ w b lev sc ρ (.Compare l [.NotEq] [.List [] p] pos) st Q := by
  refine TJ_Cmp ?_
  intro f A s R F I O Qc P
  refine h f A s R F I O Qc fun v av st' h' tk' S I' r q => ?_
  obtain ⟨a, xs, rfl, ea, hd, hq⟩ := q
  refine P v _ st' h' tk' S I' r (EV_List (IJ_nil ⟨Nat.zero_le _, fun c hc => CMP_ne_list (upd_old hc ea) upd_self hd rfl (TRU_bool ?_)⟩))
  rw [beqs_nil]; exact hq c hc
theorem TJ_eqNil {l : Expr} {p pos : Pos} {Q : Bool → St → Prop}
    (h : EV w b lev sc ρ l st fun x st₁ => ∃ a xs, x = .obj a ∧ st₁ a = some (.list xs) ∧ AV.dats 8 xs = true ∧ ∀ d, st₁ d = none → Q xs.isEmpty (upd st₁ d (.list []))) : TJ w b lev sc ρ (.Compare l [.Eq] [.List [] p] pos) st Q := by
  refine TJ_Cmp ?_
  intro f A s R F I O Qc P
  refine h f A s R F I O Qc fun v av st' h' tk' S I' r q => ?_
  obtain ⟨a, xs, rfl, ea, hd, hq⟩ := q
  refine P v _ st' h' tk' S I' r (EV_List (IJ_nil ⟨Nat.zero_le _, fun c hc => CMP_eq_list (upd_old hc ea) upd_self hd rfl (TRU_bool ?_)⟩))
  rw [beqs_nil]; exact hq c hc
end

/-! R1 -/
section


/-! ## rows -/
inductive Row where
  | m (p : Pt)
  | l (p : Pt)
  | c (p q r : Pt)
  | z
deriving DecidableEq
inductive Kd where | m | l | c | z
deriving DecidableEq
@[reducible] noncomputable def Kd.str : Kd → Str
  | .m => "m" | .l => "l" | .c => "c" | .z => "z"
noncomputable def Row.kd : Row → Kd
  | .m _ => .m | .l _ => .l | .c _ _ _ => .c | .z => .z
@[reducible] noncomputable def Row.av : Row → AV
  | .m p => .tup [.str "m", .int p.1, .int p.2]
  | .l p => .tup [.str "l", .int p.1, .int p.2]
  | .c p q r => .tup [.str "c", .int p.1, .int p.2, .int q.1, .int q.2, .int r.1, .int r.2]
  | .z => .tup [.str "z"]
noncomputable def Row.pts : Row → List Pt
  | .m p => [p] | .l p => [p] | .c p q r => [p, q, r] | .z => []
noncomputable def okStep (last : Option Kd) (r : Row) : Bool := match last, r with
  | none, .m _ => true
  | none, _ => false
  | some .m, .l _ => true
  | some .m, .c _ _ _ => true
  | some .m, _ => false
  | some .z, .m _ => true
  | some .z, _ => false
  | some _, _ => true
noncomputable def okFrom : Option Kd → List Row → Bool
  | _, [] => true
  | last, r :: rs => okStep last r && okFrom (some r.kd) rs
noncomputable def lastKd (rs : List Row) : Option Kd := rs.getLast?.map Row.kd
@[reducible] noncomputable def kdAv : Option Kd → AV
  | none => .none
  | some k => .str k.str
noncomputable def flatFrom (fl : Int) : Option Pt → List Row → List Row
  | _, [] => []
  | h, .c p q r :: rs => (ends 10 ⟨h.getD (0, 0), p, q, r⟩ fl).map .l ++ flatFrom fl (some r) rs
  | h, .z :: rs => .z :: flatFrom fl h rs
  | _, .m p :: rs => .m p :: flatFrom fl (some p) rs
  | _, .l p :: rs => .l p :: flatFrom fl (some p) rs
noncomputable abbrev flat (fl : Int) (rs : List Row) : List Row := flatFrom fl none rs
noncomputable def Row.Small (r : Row) : Prop := ∀ p ∈ r.pts, Mine.Small p

theorem row_dat (r : Row) : r.av.dat 8 = true := by cases r <;> (simp only [Row.av, AV.dat, AV.dats, Bool.and_true]; decide +kernel)
theorem rows_dat (rs : List Row) : AV.dats 8 (rs.map Row.av) = true := dats_map fun r _ => row_dat r
theorem okFrom_append : ∀ (last : Option Kd) (as bs : List Row), okFrom last (as ++ bs) = (okFrom last as && okFrom (if as = [] then last else lastKd as) bs)
  | last, [], bs => by simp [okFrom]
  | last, a :: as, bs => by
    simp only [List.cons_append, okFrom, okFrom_append (some a.kd) as bs]
    cases as with
    | nil => simp [lastKd, okFrom]
    | cons x r =>
      have e : lastKd (a :: x :: r) = lastKd (x :: r) := by simp [lastKd, List.getLast?_cons_cons]
      simp [e, Bool.and_assoc]
theorem lastKd_snoc (as : List Row) (r : Row) : lastKd (as ++ [r]) = some r.kd := by simp [lastKd]
noncomputable def Row.items : Row → List AV
  | .m p => [.str "m", .int p.1, .int p.2]
  | .l p => [.str "l", .int p.1, .int p.2]
  | .c p q r => [.str "c", .int p.1, .int p.2, .int q.1, .int q.2, .int r.1, .int r.2]
  | .z => [.str "z"]
theorem Row.av_eq (r : Row) : r.av = .tup r.items := by cases r <;> rfl
theorem GETS_row0 {w : World} {b : Heap} {lev : Nat} {st : St} {value slice : Expr} {r : Row} {Q : AV → St → Prop} (h : Q (.str r.kd.str) st)
    (hs : ∀ o i, subscripted slice false o i = operate [o, i] (getItem o i) := by intro _ _; with_unfolding_all rfl) : GETS w b lev value slice r.av (.int 0) st Q := by
  rw [Row.av_eq]
  exact GETS_t ⟨.str r.kd.str, by cases r <;> rfl, h⟩ (hs := hs)
theorem kd_dat (k : Kd) : (AV.str k.str).dat 8 = true := by cases k <;> decide +kernel
theorem kd_beq (k j : Kd) : AV.beq (.str k.str) (.str j.str) = decide (k = j) := by cases k <;> cases j <;> decide +kernel
theorem kd_m (k : Kd) : AV.beq (.str k.str) (.str "m") = decide (k = .m) := kd_beq k .m
theorem kd_c (k : Kd) : AV.beq (.str k.str) (.str "c") = decide (k = .c) := kd_beq k .c
theorem kd_z (k : Kd) : AV.beq (.str k.str) (.str "z") = decide (k = .z) := kd_beq k .z
end

/-! F14 -/
section

variable {w : World} {b : Heap} {lev : Nat} {sc : Scope} {ρ : Ren} {st : St}

/-- a def of the text, called with some of its defaults -/
theorem CODE_defD (G : Gd w b) {name qual : Str} {params : Arguments} {body : List Stmt} {scope : Scope} {dV kV doc pm cdv ct oc : Value} {an od : Option Addr} {osl : Array (Option Value)} {f : Addr} (names : List Str) {args : List AV} {ds : List Value} (dxs : List AV) {Q : AV → St → Prop}
    (ho : (hd.heap_1 w.params).lookup f = some ⟨oc, od, .func (fnOf name qual params body scope dV kV doc pm an cdv ct), osl⟩) (hcd : codeIn (hd.heap_1 w.params) cdv qual = true)
    (hb : ∀ (s : Shared) (vs : List Value), (hd.heap_1 w.params).In s.heap → vs.length + dxs.length = names.length → BindsTo s (fnOf name qual params body scope dV kV doc pm an cdv ct) ⟨vs, []⟩ (names.zip (vs ++ ds)))
    (hds : ∀ h : Heap, RepAll h ds dxs)
    (hl : args.length + dxs.length = names.length)
    (h : EX w b lev scope (Ren.nil.sets (names.zip (args ++ dxs))) body st (RetQ Q))
    (hn : names.all (isSt scope) = true := by decide +kernel)
    (hk : scope.kind = .function := by with_unfolding_all rfl) (hco : scope.isCoroutine = false := by with_unfolding_all rfl) (hgen : scope.isGenerator = false := by with_unfolding_all rfl) : CodeOk w b (lev + 1) (.ref f) args st Q := by
  intro A s vs R I r RR P
  have K := I.inK G
  have hvl : vs.length + dxs.length = names.length := by rw [r.length, hl]
  have hdl : ds.length = dxs.length := (hds s.heap).length
  refine codeAny_call_function (fd := fnOf name qual params body scope dV kV doc pm an cdv ct) (by have := R.dp; unfold recursionLimit; omega) (K _ _ ho) rfl hco hgen rfl (codeRec_of K hcd) (hb s vs K hvl _ _ _ _ ?_)
  refine wpAny_mono (newFrame (w := w) (A := A.in1) (fn := some f) (code := cdv) (qual := qual ++ ".<locals>.") hk I (r.append (hds _)) (by simp [hdl, hvl]) hn
    (Qc := fun env s₂ => s₂.heap.NoLimit ∧ codeAny (model Pg w) A (.func body env) RR s₂) fun fr h₁ tk₁ _ _ _ _ F₁ I₁ O₁ k₁ own => ?_) (fun _ _ x => x) fun _ _ x => x.elim
  refine ⟨(G.nolimit.keeps I₁.base), codeAny_func (wpAny_mono (h fr (A.deeper (fr.env scope)) _ (roomDeeper R) F₁ I₁ O₁
    (fun fl s' => match fl with | .ret v => RR (.ok (.ret v)) s' | .next => RR (.ok (.ret .none)) s' | _ => False) fun fl afl ρ' st' h' tk' S' F' I' O' r' q' => ?_) (fun fl s' q => ?_) fun _ _ x => x.elim)⟩
  · have S : Step st s.heap st' h' := fun a o e g => S' a o (k₁ a o e) g fun ho => by rw [own a ho] at e; cases e
    cases r' with
    | next => exact P _ _ _ _ _ S I' .none q'
    | brk => exact q'.elim
    | cont => exact q'.elim
    | ret rv => exact P _ _ _ _ _ S I' rv q'
  · cases fl with
    | next => exact q
    | brk => exact q.elim
    | cont => exact q.elim
    | ret v => exact q

/-! ## the class -/
abbrev pC : Addr := 184
@[reducible] noncomputable def pFs (k : Addr) (bg pt : AV) : List (Str × AV) := [("most", .int 1500), ("kept", .obj k), ("begun", bg), ("point", pt)]
structure PathIn (st₀ st : St) (x dx k : Addr) (bg pt : AV) (rs : List Row) : Prop where
  nx : st₀ x = none
  nd : st₀ dx = none
  nk : st₀ k = none
  ex : st x = some (.inst pC dx)
  ed : st dx = some (.dict (pFs k bg pt))
  ek : st k = some (.list (rs.map Row.av))
  pb : bg.plain = true
  pp : pt.plain = true
  some : rs ≠ [] → pt.isNone = false
  sb : rs ≠ [] → bg.isNone = false
  ext : Ext st₀ st
noncomputable def PathAt (st₀ st : St) (x : Addr) (rs : List Row) : Prop := ∃ dx k bg pt, PathIn st₀ st x dx k bg pt rs

theorem PathIn.keep {st₀ st st' : St} {x dx k : Addr} {bg pt : AV} {rs : List Row} (P : PathIn st₀ st x dx k bg pt rs) (e : Ext st st') : PathIn st₀ st' x dx k bg pt rs :=
  ⟨P.nx, P.nd, P.nk, e _ _ P.ex, e _ _ P.ed, e _ _ P.ek, P.pb, P.pp, P.some, P.sb, P.ext.trans e⟩
theorem PathIn.xd {st₀ st : St} {x dx k : Addr} {bg pt : AV} {rs : List Row} (P : PathIn st₀ st x dx k bg pt rs) : x ≠ dx := fun q => by have := P.ex; rw [q, P.ed] at this; cases this
theorem PathIn.kd {st₀ st : St} {x dx k : Addr} {bg pt : AV} {rs : List Row} (P : PathIn st₀ st x dx k bg pt rs) : k ≠ dx := fun q => by have := P.ek; rw [q, P.ed] at this; cases this
theorem PathIn.xk {st₀ st : St} {x dx k : Addr} {bg pt : AV} {rs : List Row} (P : PathIn st₀ st x dx k bg pt rs) : x ≠ k := fun q => by have := P.ex; rw [q, P.ek] at this; cases this
theorem Ext.mut {st st' : St} {B : Addr} {o : AObj} (x : Ext st st') (n : st B = none) : Ext st (upd st' B o) := fun a y e => by rw [upd_ne (ne_of e n)]; exact x a y e
theorem EV_AttrP (G : Gd w b) {value : Expr} {name : Str} {pos : Pos} {Q : AV → St → Prop}
    (k1 : findIn (hd.heap_1 w.params) (.ref pC) "__getattribute__" = some (some (.builtin "object.__getattribute__"))) (k2 : findIn (hd.heap_1 w.params) (.ref pC) name = some none) (k3 : hasDictIn (hd.heap_1 w.params) pC = true)
    (h : EV w b lev sc ρ value st fun y st₁ => ∃ x dx fs, y = .obj x ∧ st₁ x = some (.inst pC dx) ∧ st₁ dx = some (.dict fs) ∧ ∃ v, fs.lookup name = some v ∧ v.plain = true ∧ Q v st₁)
    (he : ∀ env, eval (.Attribute value name pos) env = (do
      let o ← eval value env
      standAt pos.atName
      let r ← holding [o] (getAttr o name true)
      letTemporaryGo value o r
      pure r) := by intro _; with_unfolding_all rfl) : EV w b lev sc ρ (.Attribute value name pos) st Q := by
  refine EV_Attr G ?_ he
  intro f A s R F I O Qc P
  refine h f A s R F I O Qc fun v av st' h' tk' S I' r q => ?_
  obtain ⟨x, dx, fs, rfl, ex, ed, y, hl, hp, hq⟩ := q
  exact P v _ st' h' tk' S I' r ⟨x, pC, dx, fs, y, rfl, ex, ed, hl, hp, k1, k2, k3, hq⟩

theorem EV_MethP (G : Gd w b) {o e : Expr} {es : List Expr} {name : Str} {apos pos : Pos} {fa : Addr} {Q : AV → St → Prop}
    (k1 : findIn (hd.heap_1 w.params) (.ref pC) "__getattribute__" = some (some (.builtin "object.__getattribute__"))) (k2 : findIn (hd.heap_1 w.params) (.ref pC) "__getattr__" = some none)
    (k3 : findIn (hd.heap_1 w.params) (.ref pC) name = some (some (.ref fa))) (k4 : typeIn (hd.heap_1 w.params) (.ref fa) = some (.type "function")) (k5 : keepIn (hd.heap_1 w.params) (.ref fa) = true)
    (h : EV w b lev sc ρ o st fun y st₁ => ∃ x dx fs, y = .obj x ∧ st₁ x = some (.inst pC dx) ∧ st₁ dx = some (.dict fs) ∧ fs.lookup name = none ∧ IJ w b lev sc ρ pos (e :: es) st₁ fun ys st₂ => CallOk w b lev (.ref fa) (.obj x :: ys) st₂ Q)
    (he : methEq o name apos pos (e :: es) := by intro _; with_unfolding_all rfl)
    (h1 : ∀ env, starEach (e :: es) env = (false, eval e env) :: starEach es env := by intro _; with_unfolding_all rfl) (hp : ∀ env, (backTo pos (starEach es env)).any (·.1) = false := by intro _; with_unfolding_all rfl) : EV w b lev sc ρ (.Call (.Attribute o name apos) (e :: es) [] pos) st Q := by
  refine EV_MethI G ?_ (plOf o) he h1 hp
  intro f A s R F I O Qc P
  refine h f A s R F I O Qc fun v av st' h' tk' S I' r q => ?_
  obtain ⟨x, dx, fs, rfl, ex, ed, hl, hq⟩ := q
  exact P v _ st' h' tk' S I' r ⟨x, pC, dx, fs, fa, rfl, ex, ed, hl, k1, k2, k3, k4, k5, hq⟩
theorem EV_MethP0 (G : Gd w b) {o : Expr} {name : Str} {apos pos : Pos} {fa : Addr} {Q : AV → St → Prop}
    (k1 : findIn (hd.heap_1 w.params) (.ref pC) "__getattribute__" = some (some (.builtin "object.__getattribute__"))) (k2 : findIn (hd.heap_1 w.params) (.ref pC) "__getattr__" = some none)
    (k3 : findIn (hd.heap_1 w.params) (.ref pC) name = some (some (.ref fa))) (k4 : typeIn (hd.heap_1 w.params) (.ref fa) = some (.type "function")) (k5 : keepIn (hd.heap_1 w.params) (.ref fa) = true)
    (h : EV w b lev sc ρ o st fun y st₁ => ∃ x dx fs, y = .obj x ∧ st₁ x = some (.inst pC dx) ∧ st₁ dx = some (.dict fs) ∧ fs.lookup name = none ∧ CallOk w b lev (.ref fa) [.obj x] st₁ Q)
    (he : methEq o name apos pos [] := by intro _; with_unfolding_all rfl) : EV w b lev sc ρ (.Call (.Attribute o name apos) [] [] pos) st Q := by
  refine EV_MethI0 G ?_ (plOf o) he
  intro f A s R F I O Qc P
  refine h f A s R F I O Qc fun v av st' h' tk' S I' r q => ?_
  obtain ⟨x, dx, fs, rfl, ex, ed, hl, hq⟩ := q
  exact P v _ st' h' tk' S I' r ⟨x, pC, dx, fs, fa, rfl, ex, ed, hl, k1, k2, k3, k4, k5, hq⟩

theorem ES_AttrP (G : Gd w b) {o value : Expr} {name : Str} {p pos : Pos} {Q : AFlow → Ren → St → Prop}
    (k1 : findIn (hd.heap_1 w.params) (.ref pC) "__setattr__" = some (some (.builtin "object.__setattr__"))) (k2 : plainOver (hd.heap_1 w.params) pC = true) (k3 : takerIn (hd.heap_1 w.params) pC name = some none) (k4 : hasDictIn (hd.heap_1 w.params) pC = true)
    (h : EV w b lev sc ρ value st fun v st₁ => EV w b lev sc ρ o st₁ fun y st₂ => ∃ x dx fs, y = .obj x ∧ st₂ x = some (.inst pC dx) ∧ st₂ dx = some (.dict fs) ∧ ∃ fs', fset fs name v = fs' ∧ fs.length < 900 ∧ Q .next ρ (upd st₂ dx (.dict fs')))
    (hs : ∀ f : FId, swapsWith value (some (.Attribute o name p)) pos.line (f.env sc) = pure false := by intro _; with_unfolding_all rfl) : ES w b lev sc ρ (.Assign [.Attribute o name p] value pos) st Q := by
  refine ES_AttrSet G ?_ hs
  intro f A s R F I O Qc P
  refine h f A s R F I O Qc fun v av st' h' tk' S I' r q => P v av st' h' tk' S I' r ?_
  intro f A s R F I O Qc P
  refine q f A s R F I O Qc fun v₂ av₂ st₂ h₂ tk₂ S₂ I₂ r₂ q₂ => P v₂ av₂ st₂ h₂ tk₂ S₂ I₂ r₂ ?_
  obtain ⟨x, dx, fs, rfl, ex, ed, fs', hf, hz, hq⟩ := q₂
  exact ⟨x, pC, dx, fs, fs', rfl, ex, ed, hf, hz, k1, k2, k3, k4, hq⟩
end

/-! F15 -/
section

variable {w : World} {b : Heap} {lev : Nat} {sc : Scope} {ρ : Ren} {st : St}

theorem ES_ForE {target iter : Expr} {body : List Stmt} {pos : Pos} {Q : AFlow → Ren → St → Prop}
    (h : EV w b lev sc ρ iter st fun x st₁ => ∃ (xs : List AV) (J : Nat → Ren → St → Prop), (∀ i ρ' st', J i ρ' st' → ItemsOf x st' xs) ∧ J 0 ρ st₁ ∧
      (∀ i y ρ' st', xs[i]? = some y → J i ρ' st' → ∃ ρ₂, AsgOK w b lev sc target y ρ' ρ₂ ∧ ∀ Q' : AFlow → Ren → St → Prop, (∀ ρ₃ st₃, J (i + 1) ρ₃ st₃ → Q' .next ρ₃ st₃) → EX w b lev sc ρ₂ body st' Q') ∧
      (∀ ρ' st', J xs.length ρ' st' → Q .next ρ' st') ∧ (∀ (A : Around) (s : Shared) (I : Addr) (v : Value) (Q' : Unit → Shared → Prop) (i : Nat) (y : AV), Cur I s.heap x i → Rep s.heap v y → y ∈ xs → Q' () s → wpAny (model Pg w) A (letOwnedTupleGo target (.ref I) v) Q' NoE s))
    (hs : ∀ (f : FId) x, foldedSetIterable iter (f.env sc) x = pure x := by intro _ _; with_unfolding_all rfl) : ES w b lev sc ρ (.For target iter body [] pos) st Q := by
  intro f A s R F I O Qc P
  refine wpAny_For (h f A s R F I O _ fun v av st₁ h₁ tk₁ S₁ I₁ r₁ q₁ => ?_) (hs f)
  obtain ⟨xs, J, hit, hj, turn, done, hg⟩ := q₁
  have F₁ := F.step I O S₁
  have O₁ := F.off O S₁
  refine iter_ (hit _ _ _ hj) I₁ r₁ fun h₂ c₂ S₂ I₂ => ?_
  dsimp only at c₂ S₂ I₂ ⊢
  have hnew : h₁.get? h₁.objs.size = none := get_size
  have hIst : st₁ h₁.objs.size = none := I₁.dead hnew
  have hIb : b.get? h₁.objs.size = none := by
    cases e : b.get? h₁.objs.size with
    | none => rfl
    | some o => rw [I₁.base _ _ e] at hnew; cases hnew
  have hIO : ¬ Own f h₁.objs.size := by
    rintro (e | ⟨p, hp⟩)
    · obtain ⟨m, ⟨o, _, _, ho, _⟩, _⟩ := F₁.ns
      rw [← e, hnew] at ho; cases ho
    · obtain ⟨_, o, ho, _⟩ := F₁.alive p _ hp
      rw [hnew] at ho; cases ho
  generalize hII : h₁.objs.size = II at *
  have F₂ := F₁.step I₁ O₁ S₂
  have O₂ := F₁.off O₁ S₂
  refine codeAny_forLoop_any (fun n s' => ∃ i ρ' st' h' tk', s' = { s with heap := h', toks := tk' } ∧ n = xs.length + 1 - i ∧ i ≤ xs.length ∧ J i ρ' st' ∧ Cur II h' av i ∧ Inv b st' h' ∧ FrOK f sc h' ρ' ∧ Off b f st' ∧ st' II = none ∧
      (∀ a o, a ≠ II → h₁.get? a = some o → st₁ a = none → ¬ Own f a → h'.get? a = some o ∧ st' a = none)) ?_ (xs.length + 1) ⟨0, ρ, st₁, h₂, tk₁, rfl, rfl, Nat.zero_le _, hj, c₂, I₂, F₂, O₂, hIst, fun a o _ e g _ => S₂ a o e g⟩
  rintro n s' ⟨i, ρ', st', h', tk', rfl, rfl, hi, hJ, c, I', F', O', hI', hk⟩
  cases hy : xs[i]? with
  | none =>
    have hil : i = xs.length := by
      have := List.getElem?_eq_none_iff.mp hy
      omega
    subst hil
    refine wpAny_mono (next_none (w := w) (A := A) (s := { s with heap := h', toks := tk' }) R.hh (hit _ _ _ hJ) I' c (Qc := fun r s₁ => r = none ∧ ∃ h'' tk'', s₁ = { s with heap := h'', toks := tk'' } ∧ Heap.ExtBut II h' h'') fun h'' tk'' S => ⟨rfl, h'', tk'', rfl, S⟩) (fun r s₁ hr => ?_) fun _ _ z => z.elim
    obtain ⟨rfl, h'', tk'', rfl, S⟩ := hr
    refine wpAny_execs_nil ?_
    have k : KeepT h' h'' := fun a o m e => S a o (fun q => by subst q; exact c.notImm o m e) e
    have I'' : Inv b st' h'' := ⟨fun a o e => (I'.rep a o e).keep k fun o' e' => S a o' (fun q => by subst q; rw [hI'] at e; cases e) e', fun a o e => S a o (fun q => by subst q; rw [hIb] at e; cases e) (I'.base a o e), I'.off⟩
    have F'' : FrOK f sc h'' ρ' := F'.keep k (fun o e => S _ o (fun q => hIO (.inl q.symm)) e) fun p c hp o e => S _ o (fun q => hIO (.inr ⟨p, q ▸ hp⟩)) e
    refine P .next .next ρ' st' h'' tk'' (fun a o e g n => ?_) F'' I'' O' .next (done _ _ hJ)
    obtain ⟨e₁, g₁⟩ := S₁ a o e g
    have hne : a ≠ II := fun q => by subst q; rw [hnew] at e₁; cases e₁
    obtain ⟨e₂, g₂⟩ := hk a o hne e₁ g₁ n
    exact ⟨S a o hne e₂, g₂⟩
  | some y =>
    have hlt : i < xs.length := (List.getElem?_eq_some_iff.mp hy).1
    refine wpAny_mono (next_some (w := w) (A := A) (s := { s with heap := h', toks := tk' }) (hit _ _ _ hJ) I' hI' c hy (Qc := fun r s₁ => ∃ v h'' tk'', r = some v ∧ s₁ = { s with heap := h'', toks := tk'' } ∧ Rep h'' v y ∧ Cur II h'' av (i + 1) ∧ Heap.SameBut II h' h'') fun v h'' tk'' rv c' S => ⟨v, h'', tk'', rfl, rfl, rv, c', S⟩) (fun r s₁ hr => ?_) fun _ _ z => z.elim
    obtain ⟨v, h'', tk'', rfl, rfl, rv, c', S⟩ := hr
    obtain ⟨I'', F'', k⟩ := sameI I' F' hI' hIb hIO c.notImm S
    refine wpAny_mono (hg A { s with heap := h'', toks := tk'' } II v (fun _ s₁ => s₁ = { s with heap := h'', toks := tk'' }) (i + 1) y c' rv (List.mem_of_getElem? hy) rfl) (fun _ s₁ hs₁ => ?_) fun _ _ z => z.elim
    subst hs₁
    obtain ⟨ρ₂, ha, hb⟩ := turn i y ρ' st' hy hJ
    refine wpAny_mono (ha f A { s with heap := h'', toks := tk'' } st' v R F'' I'' O' rv (fun _ s₁ => ∃ h₃ tk₃, s₁ = { s with heap := h₃, toks := tk₃ } ∧ StepF f st' h'' st' h₃ ∧ FrOK f sc h₃ ρ₂ ∧ Inv b st' h₃) fun h₃ tk₃ S₃ F₃ I₃ => ⟨h₃, tk₃, rfl, S₃, F₃, I₃⟩) (fun _ s₁ hs₁ => ?_) fun _ _ z => z.elim
    obtain ⟨h₃, tk₃, rfl, S₃, F₃, I₃⟩ := hs₁
    refine wpAny_mono (hb (fun fl ρ₃ st₃ => fl = .next ∧ J (i + 1) ρ₃ st₃) (fun _ _ j => ⟨rfl, j⟩) f A { s with heap := h₃, toks := tk₃ } R F₃ I₃ O' (fun fl s₄ => ∃ ρ₄ st₄ h₄ tk₄, fl = .next ∧ s₄ = { s with heap := h₄, toks := tk₄ } ∧ StepF f st' h₃ st₄ h₄ ∧ FrOK f sc h₄ ρ₄ ∧ Inv b st₄ h₄ ∧ Off b f st₄ ∧ J (i + 1) ρ₄ st₄)
      fun fl afl ρ₄ st₄ h₄ tk₄ S₄ F₄ I₄ O₄ r₄ q₄ => by obtain ⟨rfl, q₄⟩ := q₄; cases r₄; exact ⟨ρ₄, st₄, h₄, tk₄, rfl, rfl, S₄, F₄, I₄, O₄, q₄⟩) (fun fl s₄ hs₄ => ?_) fun _ _ z => z.elim
    obtain ⟨ρ₄, st₄, h₄, tk₄, rfl, rfl, S₄, F₄, I₄, O₄, q₄⟩ := hs₄
    have ST : StepF f st' h'' st₄ h₄ := S₃.trans S₄
    obtain ⟨oI, hoI⟩ := c'.alive
    have cI : ∀ o, h''.get? II = some o → h₄.get? II = some o := fun o e => (ST II o e hI' hIO).1
    have hI₄ : st₄ II = none := (ST II oI hoI hI' hIO).2
    have kT := F''.keepTF I'' ST
    have hk₄ : ∀ a o, a ≠ II → h₁.get? a = some o → st₁ a = none → ¬ Own f a → h₄.get? a = some o ∧ st₄ a = none := fun a o hne e g n => by
      obtain ⟨e₂, g₂⟩ := hk a o hne e g n
      exact ST a o ((S.2 a hne).trans e₂) g₂ n
    exact ⟨xs.length + 1 - (i + 1), by omega, i + 1, ρ₄, st₄, h₄, tk₄, rfl, rfl, hlt, q₄, c'.keep cI kT, I₄, F₄, O₄, hI₄, hk₄⟩

structure CInv (b : Heap) (st₁ : St) (h₁ : Heap) (II C D : Addr) (av : AV) (i : Nat) (ys : List AV) (vs : List Value) (nv : Nat) (st' : St) (h' : Heap) (m' : Str → Option Value) : Prop where
  c : Cur II h' av i
  I : Inv b st' h'
  n : h'.Ns C m'
  d : h'.get? D = some (lstO vs nv)
  r : RepAll h' vs ys
  len : ys.length ≤ i
  sI : st' II = none
  sC : st' C = none
  sD : st' D = none
  k : KeepT h₁ h'
  hk : ∀ a o, h₁.get? a = some o → st₁ a = none → h'.get? a = some o ∧ st' a = none

theorem comp_coreE {elt iter : Expr} {x : Str} {px : Pos} {ifs : List Expr} {scope : Scope} {pos p0 : Pos} {Fin : List AV → St → Prop} {use : Env → Option (Value → Sem Unit)}
    (hkind : scope.kind = .function) (hnames : ∀ y ∈ scope.names, y.2 = .local → scope.names.lookup y.1 = some .local) (hcell : ∀ y ∈ scope.names, y.2 ≠ .cell)
    (hcap : ∀ y ∈ scope.names, y.2 = .free → sc.names.lookup y.1 = some .cell) (hx : scope.names.lookup x = some .local)
    (hs : ∀ (f : FId) x, foldedSetIterable iter (f.env sc) x = pure x)
    {f : FId} {A : Around} {s : Shared} (R : RoomA lev A) (F : FrOK f sc s.heap ρ) (I : Inv b st s.heap) (O : Off b f st)
    (h : EV w b lev sc ρ iter st fun src st₁ => ∃ (xs : List AV) (J : Nat → List AV → St → Prop), CompTurns w b lev sc ρ scope x ifs elt src xs J st₁ Fin)
    {Qc : Value → Shared → Prop}
    (P : ∀ D C ys st' h' tk', CompFin b f sc ρ st s.heap D C ys st' h' → Fin ys st' → compPost (model Pg w) A NoE (use (f.env sc)) Qc (.ref D) C (.ok .next) { s with heap := h', toks := tk' }) :
    wpAny (model Pg w) A (comprehension (.ListComp elt [⟨.Name x px, iter, ifs, 0⟩] scope pos) scope (f.env sc) p0 (newList []) false (eval iter (f.env sc)) (use (f.env sc))) Qc NoE s := by
  obtain ⟨cl, hcl, hsub, hall⟩ := closure_of (env := f.env sc) scope.names [] fun y hy => F.all y (hcap _ hy rfl)
  have hclos : closureFor scope (f.env sc) = pure cl := by
    unfold closureFor
    simp only [bind_pure]
    exact hcl
  have hsub' : ∀ y c, cl.lookup y = some c → f.cl.lookup y = some c := fun y c e => (hsub y c e).elim (fun q => by cases q) id
  refine wpAny_comprehension_free rfl (hs f) hclos hkind hnames ?_
  refine h f A s R F I O _ fun v av st₁ h₁ tk₁ S₁ I₁ r₁ q₁ => ?_
  obtain ⟨xs, J, hit, hj, hsz, turn, done⟩ := q₁
  have F₁ := F.step I O S₁
  have O₁ := F.off O S₁
  refine iter_ (hit _ _ _ hj) I₁ r₁ fun h₂ c₂ S₂ I₂ => ?_
  dsimp only at c₂ S₂ I₂ ⊢
  have hnew : h₁.get? h₁.objs.size = none := get_size
  have fresh : ∀ a, h₁.get? a = none → st₁ a = none ∧ b.get? a = none ∧ ¬ Own f a := fun a hn => by
    refine ⟨I₁.dead hn, ?_, ?_⟩
    · cases e : b.get? a with
      | none => rfl
      | some o => rw [I₁.base _ _ e] at hn; cases hn
    · rintro (e | ⟨p, hp⟩)
      · obtain ⟨m, ⟨o, _, _, ho, _⟩, _⟩ := F₁.ns
        rw [← e, hn] at ho; cases ho
      · obtain ⟨_, o, ho, _⟩ := F₁.alive p _ hp
        rw [hn] at ho; cases ho
  have hIalive := c₂.alive
  generalize hII : h₁.objs.size = II at *
  refine wpAny_newObj_type (wpAny_newFunctionEnv hcell (by intro y hy; simp at hy) (fun h₃ hns₃ hsb₃ => ?_) hkind)
  dsimp only at hns₃ hsb₃ ⊢
  -- the list
  obtain ⟨S₃, I₃⟩ := step_push I₂ ({ cls := .type "list", dict := none, data := .seq ([] : List Value).toArray } : Obj)
  have hDn : h₂.get? h₂.objs.size = none := get_size
  have hDo : (h₂.push ({ cls := .type "list", dict := none, data := .seq ([] : List Value).toArray } : Obj)).get? h₂.objs.size = some (lstO [] 0) := Heap.get?_push_size _ rfl
  generalize hH : h₂.push ({ cls := .type "list", dict := none, data := .seq ([] : List Value).toArray } : Obj) = H at *
  have hCn : H.get? H.objs.size = none := get_size
  generalize hDD : h₂.objs.size = D at *
  generalize hCC : H.objs.size = C at *
  have ext : ∀ a o, H.get? a = some o → h₃.get? a = some o := fun a o e => by
    refine (hsb₃.2 a fun q => by subst q; rw [hCn] at e; cases e).trans (Heap.get?_push_of_some _ e)
  have I₄ : Inv b st₁ h₃ := ⟨fun a o e => (I₃.rep a o e).keep (fun _ _ _ e => ext _ _ e) (fun o e => ext _ _ e), fun a o e => ext _ _ (I₃.base a o e), I₃.off⟩
  have old : ∀ a o, h₁.get? a = some o → st₁ a = none → h₃.get? a = some o := fun a o e g => ext _ _ (S₃ a o (S₂ a o e g).1 g).1
  have hIH : ∀ o, h₂.get? II = some o → h₃.get? II = some o := fun o e => ext _ _ (S₃ _ o e (fresh _ hnew).1).1
  have hII_D : II ≠ D := by rintro rfl; obtain ⟨o, ho⟩ := hIalive; rw [hDn] at ho; cases ho
  have hII_C : II ≠ C := by
    rintro rfl
    obtain ⟨o, ho⟩ := hIalive
    have := (S₃ _ o ho (fresh _ hnew).1).1
    rw [hCn] at this; cases this
  have hD_C : D ≠ C := by rintro rfl; rw [hDo] at hCn; cases hCn
  have dead₁ : ∀ a, a ≠ II → h₂.get? a = none → h₁.get? a = none := fun a hne hn => by
    cases e : h₁.get? a with
    | none => rfl
    | some o =>
      cases g : st₁ a with
      | none => rw [(S₂ a o e g).1] at hn; cases hn
      | some x =>
        have := I₂.dead hn
        rw [g] at this; cases this
  have hD₁ : h₁.get? D = none := dead₁ D (Ne.symm hII_D) hDn
  have hC₂ : h₂.get? C = none := by
    cases e : h₂.get? C with
    | none => rfl
    | some o =>
      cases g : st₁ C with
      | none => rw [(S₃ C o e g).1] at hCn; cases hCn
      | some x =>
        have := I₃.dead hCn
        rw [g] at this; cases this
  have hC₁ : h₁.get? C = none := dead₁ C (Ne.symm hII_C) hC₂
  have c₃ : Cur II h₃ av 0 := c₂.keep hIH fun a o m e => by
    cases g : st₁ a with
    | none => exact ext _ _ (S₃ a o e g).1
    | some x => exact ((I₂.rep a x g).notImm m e).elim
  have hDo₃ : h₃.get? D = some (lstO [] 0) := ext _ _ hDo
  obtain ⟨stI, bI, oI⟩ := fresh _ hnew
  obtain ⟨stD, bD, oD⟩ := fresh _ hD₁
  obtain ⟨stC, bC, oC⟩ := fresh _ hC₁
  have hrel : relabel scope (f.env sc) = relab scope sc := rfl
  have frK : ∀ h', KeepT h₁ h' → (∀ a o, h₁.get? a = some o → st₁ a = none → h'.get? a = some o) → FrOK f sc h' ρ := fun h' k e => F₁.keep k (fun o q => e _ o q O₁.L) fun p c hp o q => e _ o q (O₁.C p c hp)
  have gK : ∀ h' y v m', FrOK f sc h' ρ → h'.Ns C m' → m' x = some v → Rep h' v y → FrOK ⟨C, cl, f.q, none, f.cd, f.frm⟩ (relab scope sc) h' ((capt scope ρ).set x y) := by
    intro h' y v m' F' hn hm hr
    have hxl : (relab scope sc).names.lookup x = some .local := lookup_relabel_local (env := f.env sc) hx
    have freeName : ∀ z, (relab scope sc).names.lookup z = some .cell ∨ (relab scope sc).names.lookup z = some .free → (z, NameKind.free) ∈ scope.names := by
      intro z hz
      have key : ∀ (names : List (Str × NameKind)), (∀ y ∈ names, y.2 ≠ .cell) → ((names.map fun (n, k) => if (k == .free && sc.kind == .function && sc.names.lookup n == some .cell) then (n, NameKind.cell) else (n, k)).lookup z = some .cell ∨ (names.map fun (n, k) => if (k == .free && sc.kind == .function && sc.names.lookup n == some .cell) then (n, NameKind.cell) else (n, k)).lookup z = some .free) → (z, NameKind.free) ∈ names := by
        intro names
        induction names with
        | nil => intro _ h; rcases h with h | h <;> cases h
        | cons p r ih =>
          obtain ⟨n, k⟩ := p
          intro hc h
          simp only [List.map_cons] at h
          by_cases hq : (k == .free && sc.kind == .function && sc.names.lookup n == some .cell) = true
          · simp only [hq, if_true, List.lookup_cons] at h
            cases hzn : z == n with
            | true =>
              rw [beq_iff_eq] at hzn; subst hzn
              simp only [Bool.and_eq_true, beq_iff_eq] at hq
              rw [hq.1.1]; exact .head _
            | false => rw [hzn] at h; exact .tail _ (ih (fun y hy => hc y (.tail _ hy)) h)
          · have hq' := Bool.eq_false_iff.mpr hq
            simp only [hq', Bool.false_eq_true, if_false, List.lookup_cons] at h
            cases hzn : z == n with
            | true =>
              rw [hzn] at h
              rw [beq_iff_eq] at hzn; subst hzn
              rcases h with h | h
              · cases h; exact (hc _ (.head _) rfl).elim
              · cases h; exact .head _
            | false =>
              rw [hzn] at h
              exact .tail _ (ih (fun y hy => hc y (.tail _ hy)) h)
      exact key scope.names hcell hz
    refine ⟨hkind, ⟨m', hn, fun z az e l => ?_⟩, fun z az e l => ?_, fun z l => ?_, fun z c hp => F'.alive z c (hsub' z c hp), fun z z' c h1 h2 => F'.apart z z' c (hsub' _ _ h1) (hsub' _ _ h2), fun cl' cd' e => ?_⟩
    · unfold Ren.set at e
      by_cases hzx : z = x
      · rw [if_pos hzx] at e; cases e; subst hzx; exact ⟨v, hm, hr⟩
      · rw [if_neg hzx] at e
        unfold capt at e
        split at e
        · rename_i hfree
          exfalso
          have : (relab scope sc).names.lookup z ≠ some .local := by
            intro hl
            have key : ∀ (names : List (Str × NameKind)), names.lookup z = some .free → (names.map fun (n, k) => if (k == .free && sc.kind == .function && sc.names.lookup n == some .cell) then (n, NameKind.cell) else (n, k)).lookup z ≠ some .local := by
              intro names
              induction names with
              | nil => intro h; cases h
              | cons p r ih =>
                obtain ⟨n, k⟩ := p
                intro h
                simp only [List.map_cons]
                rw [List.lookup_cons] at h
                cases hzn : z == n with
                | true =>
                  rw [hzn] at h; cases h
                  split <;> simp [List.lookup_cons, hzn]
                | false =>
                  rw [hzn] at h
                  split <;> (simp only [List.lookup_cons, hzn]; exact ih h)
            exact key scope.names hfree hl
          exact this l
        · cases e
    · unfold Ren.set at e
      by_cases hzx : z = x
      · subst hzx; rw [hxl] at l; rcases l with l | l <;> cases l
      · rw [if_neg hzx] at e
        unfold capt at e
        split at e
        · have hmem := freeName z l
          obtain ⟨c, hc⟩ := hall z (.inl hmem)
          obtain ⟨c', v', h1, h2, h3⟩ := F'.cel z az e (.inl (hcap _ hmem rfl))
          rw [hsub' z c hc] at h1; cases h1
          exact ⟨c, v', hc, h2, h3⟩
        · cases e
    · exact hall z (.inl (freeName z (.inl l)))
    · exfalso
      unfold Ren.set at e
      by_cases hzx : ("<cl>" : Str) = x
      · rw [if_pos hzx] at e; cases e; cases hr
      · rw [if_neg hzx] at e
        unfold capt at e
        split at e
        · rename_i hfree
          have hm := PySem.mem_of_lookup hfree
          obtain ⟨c', v', h1, h2, h3⟩ := F'.cel _ _ e (.inl (hcap _ hm rfl))
          cases h3
        · cases e
  have hoff : ∀ st', st' C = none → Off b f st' → Off b ⟨C, cl, f.q, none, f.cd, f.frm⟩ st' := fun st' hn O' => ⟨hn, fun z c hp => O'.C z c (hsub' _ _ hp), bC, fun z c hp => O'.bC z c (hsub' _ _ hp)⟩
  have imm_n : ∀ (h' : Heap) a, (∃ m, h'.Ns a m) → ∀ o, Imm o → h'.get? a ≠ some o := by
    rintro h' a ⟨m, o', _, _, ho, hd, _⟩ o i e
    rw [e] at ho; cases ho; cases i <;> cases hd
  -- the turns
  have loop : ∀ s₃ : Shared, s₃ = { s with heap := h₃, toks := tk₁ + ([] : List (Str × Value)).length } →
      codeAny (model Pg w) A (.compLoop (.ListComp elt [⟨.Name x px, iter, ifs, 0⟩] scope pos) 0 (.ref II) (.ref D) (compEnvC scope cl C (f.env sc)))
        (compPost (model Pg w) A NoE (use (f.env sc)) Qc (.ref D) C) s₃ := by
    rintro s₃ rfl
    refine codeAny_compLoop_tests (fun n s' => ∃ i ys vs nv st' h' tk' m', s' = { s with heap := h', toks := tk' } ∧ n = xs.length + 1 - i ∧ i ≤ xs.length ∧ J i ys st' ∧ CInv b st₁ h₁ II C D av i ys vs nv st' h' m') ?_ (xs.length + 1)
      ⟨0, [], [], 0, st₁, h₃, _, _, rfl, rfl, Nat.zero_le _, hj, ⟨c₃, I₄, hns₃, hDo₃, .nil, Nat.le_refl _, stI, stC, stD, fun a o m e => by
        cases g : st₁ a with
        | none => exact old a o e g
        | some x => exact ((I₁.rep a x g).notImm m e).elim, fun a o e g => ⟨old a o e g, g⟩⟩⟩
    rintro n s' ⟨i, ys, vs, nv, st', h', tk', m', rfl, rfl, hi, hJ, ⟨c, I', hn', hD', rD, hlen, hI', hC', hDn', kT, hk⟩⟩
    have frE : ∀ h'', KeepT h' h'' → (∀ a o, a ≠ II → a ≠ C → a ≠ D → h'.get? a = some o → st' a = none → h''.get? a = some o) → FrOK f sc h'' ρ := fun h'' k e => frK h'' (kT.trans k) fun a o q g => by
      obtain ⟨q', g'⟩ := hk a o q g
      exact e a o (fun z => by subst z; rw [hnew] at q; cases q) (fun z => by subst z; rw [hC₁] at q; cases q) (fun z => by subst z; rw [hD₁] at q; cases q) q' g'
    have offE : ∀ st'', (∀ a o, h₁.get? a = some o → st₁ a = none → st'' a = none) → Off b f st'' := fun st'' e => by
      refine ⟨?_, fun y c hp => ?_, O.bL, O.bC⟩
      · obtain ⟨m, ⟨o, _, _, ho, _⟩, _⟩ := F₁.ns
        exact e _ o ho O₁.L
      · obtain ⟨_, o, ho, _⟩ := F₁.alive y c hp
        exact e _ o ho (O₁.C y c hp)
    cases hy : xs[i]? with
    | none =>
      have hil : i = xs.length := by
        have := List.getElem?_eq_none_iff.mp hy
        omega
      subst hil
      refine wpAny_mono (next_none (w := w) (A := A) (s := { s with heap := h', toks := tk' }) R.hh (hit _ _ _ hJ) I' c (Qc := fun r s₁ => r = none ∧ ∃ h'' tk'', s₁ = { s with heap := h'', toks := tk'' } ∧ Heap.ExtBut II h' h'') fun h'' tk'' S => ⟨rfl, h'', tk'', rfl, S⟩) (fun r s₁ hr => ?_) fun _ _ z => z.elim
      obtain ⟨rfl, h'', tk'', rfl, S⟩ := hr
      have k : KeepT h' h'' := fun a o m e => S a o (fun q => by subst q; exact c.notImm o m e) e
      have I'' : Inv b st' h'' := ⟨fun a o e => (I'.rep a o e).keep k fun o' e' => S a o' (fun q => by subst q; rw [hI'] at e; cases e) e', fun a o e => S a o (fun q => by subst q; rw [bI] at e; cases e) (I'.base a o e), I'.off⟩
      have hD'' : h''.get? D = some (lstO vs nv) := S D _ (Ne.symm hII_D) hD'
      have F'' := frE h'' k fun a o hne _ _ e _ => S a o hne e
      have In : Inv b (upd st' D (.list ys)) h'' := by
        refine ⟨fun a y e => ?_, I''.base, fun a o e => ?_⟩
        · by_cases ha : a = D
          · subst ha; rw [upd_self] at e; cases e; exact ⟨vs, nv, hD'', rD.keep k⟩
          · rw [upd_ne ha] at e; exact I''.rep a y e
        · rw [upd_ne (fun q => by subst q; rw [bD] at e; cases e)]; exact I''.off a o e
      have ust : ∀ a o, h₁.get? a = some o → st₁ a = none → upd st' D (.list ys) a = none := fun a o e g => by
        rw [upd_ne (fun q => by subst q; rw [hD₁] at e; cases e)]; exact (hk a o e g).2
      refine P D C ys st' h'' tk'' ⟨fun a o e g => ?_, In, F'', offE _ ust, hDn', hC', hD_C, oC, bC, ?_, ⟨m', hn'.at' fun o e => S _ o (Ne.symm hII_C) e⟩⟩ (done _ _ hJ)
      · obtain ⟨e₁, g₁⟩ := S₁ a o e g
        exact ⟨S a o (fun q => by subst q; rw [hnew] at e₁; cases e₁) (hk a o e₁ g₁).1, ust a o e₁ g₁⟩
      · rintro a o e g rfl
        have := (S₁ a o e g).1
        rw [hC₁] at this; cases this
    | some y =>
      have hlt : i < xs.length := (List.getElem?_eq_some_iff.mp hy).1
      refine wpAny_mono (next_some (w := w) (A := A) (s := { s with heap := h', toks := tk' }) (hit _ _ _ hJ) I' hI' c hy (Qc := fun r s₁ => ∃ v h'' tk'', r = some v ∧ s₁ = { s with heap := h'', toks := tk'' } ∧ Rep h'' v y ∧ Cur II h'' av (i + 1) ∧ Heap.SameBut II h' h'') fun v h'' tk'' rv c' S => ⟨v, h'', tk'', rfl, rfl, rv, c', S⟩) (fun r s₁ hr => ?_) fun _ _ z => z.elim
      obtain ⟨v, h'', tk'', rfl, rfl, rv, c', S⟩ := hr
      have k₁ : KeepT h' h'' := fun a o m e => (S.2 a fun q => by subst q; exact c.notImm o m e).trans e
      have n₁ := hn'.sameBut S (Ne.symm hII_C)
      have hxl : (compEnvC scope cl C (f.env sc)).kindOf x = some .local := lookup_relabel_local (env := f.env sc) hx
      refine wpAny_assign_Name (wpAny_storeName_local hxl n₁ (fun h₄ n₄ hs₄ => ?_) (by simp [compEnvC, relabel, hkind]))
      have k₂ : KeepT h'' h₄ := fun a o m e => (hs₄.2 a fun q => by subst q; exact imm_n _ _ ⟨_, n₁⟩ o m e).trans e
      have same : ∀ a, a ≠ II → a ≠ C → ∀ o, h'.get? a = some o → h₄.get? a = some o := fun a q1 q2 o e => (hs₄.2 a q2).trans ((S.2 a q1).trans e)
      have I₅ : Inv b st' h₄ := ⟨fun a o e => (I'.rep a o e).keep (k₁.trans k₂) fun o' e' => same a (fun q => by subst q; rw [hI'] at e; cases e) (fun q => by subst q; rw [hC'] at e; cases e) o' e',
        fun a o e => same a (fun q => by subst q; rw [bI] at e; cases e) (fun q => by subst q; rw [bC] at e; cases e) o (I'.base a o e), I'.off⟩
      have c₅ : Cur II h₄ av (i + 1) := c'.keep (fun o e => (hs₄.2 _ hII_C).trans e) k₂
      have D₅ : h₄.get? D = some (lstO vs nv) := same D (Ne.symm hII_D) hD_C _ hD'
      have O₅ : Off b f st' := offE st' fun a o e g => (hk a o e g).2
      have F₅ : FrOK f sc h₄ ρ := frE h₄ (k₁.trans k₂) fun a o q1 q2 _ e _ => same a q1 q2 o e
      have G₅ := gK h₄ y v _ F₅ n₄ (if_pos rfl) (rv.keep k₂)
      have rest : ∀ st₃ h₆, Step st' h₄ st₃ h₆ → Inv b st₃ h₆ → st₃ II = none ∧ st₃ C = none ∧ st₃ D = none ∧ Cur II h₆ av (i + 1) ∧ (∃ m, h₆.Ns C m) ∧ h₆.get? D = some (lstO vs nv) ∧ RepAll h₆ vs ys ∧ KeepT h₁ h₆ ∧ (∀ a o, h₁.get? a = some o → st₁ a = none → h₆.get? a = some o ∧ st₃ a = none) := by
        intro st₃ h₆ SS II'
        have kk := SS.keepT I₅
        obtain ⟨oI, hoI⟩ := c₅.alive
        obtain ⟨oC, _, _, hoC, _⟩ := id n₄
        refine ⟨(SS _ _ hoI hI').2, (SS _ _ hoC hC').2, (SS _ _ D₅ hDn').2, c₅.keep (fun o e => (SS _ o e hI').1) kk, ⟨_, n₄.at' fun o e => (SS _ o e hC').1⟩, (SS _ _ D₅ hDn').1, rD.keep ((k₁.trans k₂).trans kk), kT.trans ((k₁.trans k₂).trans kk), fun a o e g => ?_⟩
        obtain ⟨e', g'⟩ := hk a o e g
        exact SS a o (same a (fun z => by subst z; rw [hnew] at e; cases e) (fun z => by subst z; rw [hC₁] at e; cases e) o e') g'
      refine wpAny_mono (turn i y ys st' hy hJ ⟨C, cl, f.q, none, f.cd, f.frm⟩ A { s with heap := h₄, toks := _ } R G₅ I₅ (hoff _ hC' O₅) (fun cc s₁ => ∃ st₂ h₅ tk₅, s₁ = { s with heap := h₅, toks := tk₅ } ∧ Step st' h₄ st₂ h₅ ∧ Inv b st₂ h₅ ∧ (if cc then EV w b lev (relab scope sc) ((capt scope ρ).set x y) elt st₂ (fun v st₃ => J (i + 1) (ys ++ [v]) st₃) else J (i + 1) ys st₂))
        fun cc st₂ h₅ tk₅ S₅ I₅ q₅ => ⟨st₂, h₅, tk₅, rfl, S₅, I₅, q₅⟩) (fun cc s₁ hs₁ => ?_) fun _ _ z => z.elim
      obtain ⟨st₂, h₅, tk₅, rfl, S₅, I₆, q₅⟩ := hs₁
      cases cc with
      | false =>
        simp only [Bool.false_eq_true, if_false] at q₅ ⊢
        obtain ⟨z1, z2, z3, z4, ⟨m₆, z5⟩, z6, z7, z8, z9⟩ := rest st₂ h₅ S₅ I₆
        exact ⟨xs.length + 1 - (i + 1), by omega, i + 1, ys, vs, nv, st₂, h₅, tk₅, m₆, rfl, rfl, hlt, q₅, ⟨z4, I₆, z5, z6, z7, by omega, z1, z2, z3, z8, z9⟩⟩
      | true =>
        simp only [if_true] at q₅ ⊢
        refine wpAny_mono (q₅ ⟨C, cl, f.q, none, f.cd, f.frm⟩ A { s with heap := h₅, toks := tk₅ } R (G₅.step I₅ (hoff _ hC' O₅) S₅) I₆ (G₅.off (hoff _ hC' O₅) S₅) (fun r s₁ => ∃ av' st₃ h₆ tk₆, s₁ = { s with heap := h₆, toks := tk₆ } ∧ Step st₂ h₅ st₃ h₆ ∧ Inv b st₃ h₆ ∧ Rep h₆ r av' ∧ J (i + 1) (ys ++ [av']) st₃)
          fun r av' st₃ h₆ tk₆ S₆ I₇ r₆ q₆ => ⟨av', st₃, h₆, tk₆, rfl, S₆, I₇, r₆, q₆⟩) (fun r s₁ hs₁ => ?_) fun _ _ z => z.elim
        obtain ⟨av', st₃, h₆, tk₆, rfl, S₆, I₇, r₆, q₆⟩ := hs₁
        obtain ⟨z1, z2, z3, z4, ⟨m₆, z5⟩, z6, z7, z8, z9⟩ := rest st₃ h₆ (S₅.trans S₆) I₇
        refine append_at z6 (fun h₇ S₇ e₇ => ?_) (by have := z7.length; simp [this]; unfold sizeLine at hsz ⊢; omega)
        have kD : KeepT h₆ h₇ := fun a o m e => (S₇.2 a fun q => by subst q; rw [z6] at e; cases e; have := m.cls; simp at this).trans e
        refine ⟨xs.length + 1 - (i + 1), by omega, i + 1, ys ++ [av'], vs ++ [r], nv + 1, st₃, h₇, tk₆, m₆, rfl, rfl, hlt, q₆, ⟨z4.keep (fun o e => (S₇.2 _ hII_D).trans e) kD, ?_, z5.sameBut S₇ (Ne.symm hD_C), by simpa using e₇, (z7.keep kD).append (.cons (r₆.keep kD) .nil), by simp; omega, z1, z2, z3, z8.trans kD, fun a o e g => ?_⟩⟩
        · exact ⟨fun a o e => (I₇.rep a o e).keep kD fun o' e' => (S₇.2 a fun q => by subst q; rw [z3] at e; cases e).trans e', fun a o e => (S₇.2 a fun q => by subst q; rw [bD] at e; cases e).trans (I₇.base a o e), I₇.off⟩
        · obtain ⟨y1, y2⟩ := z9 a o e g
          exact ⟨(S₇.2 a fun q => by subst q; rw [hD₁] at e; cases e).trans y1, y2⟩
  exact codeAny_compStart_list (loop _ rfl) (iter_again c₃ (loop _ rfl))

/-- a comprehension's list -/
theorem EV_CompE {elt iter : Expr} {x : Str} {px : Pos} {ifs : List Expr} {scope : Scope} {pos : Pos} {Q : AV → St → Prop}
    (h : EV w b lev sc ρ iter st fun src st₁ => ∃ (xs : List AV) (J : Nat → List AV → St → Prop), CompTurns w b lev sc ρ scope x ifs elt src xs J st₁ fun ys st' => ∀ d, st' d = none → Q (.obj d) (upd st' d (.list ys)))
    (hkind : scope.kind = .function := by with_unfolding_all rfl) (hnames : ∀ y ∈ scope.names, y.2 = .local → scope.names.lookup y.1 = some .local := by decide +kernel) (hcell : ∀ y ∈ scope.names, y.2 ≠ .cell := by decide +kernel)
    (hcap : ∀ y ∈ scope.names, y.2 = .free → sc.names.lookup y.1 = some .cell := by decide +kernel) (hx : scope.names.lookup x = some .local := by decide +kernel)
    (hs : ∀ (f : FId) x, foldedSetIterable iter (f.env sc) x = pure x := by intro _ _; with_unfolding_all rfl) : EV w b lev sc ρ (.ListComp elt [⟨.Name x px, iter, ifs, 0⟩] scope pos) st Q := by
  intro f A s R F I O Qc P
  dsimp only
  rw [eval_ListComp]
  refine comp_coreE (use := fun _ => none) hkind hnames hcell hcap hx hs R F I O h fun D C ys st' h' tk' X q => ?_
  obtain ⟨m, hn⟩ := X.ns
  refine ⟨m, hn, fun h'' S => ?_⟩
  have k : KeepT h' h'' := fun a o i e => (S.2 a fun q => by
    subst q
    obtain ⟨o', _, _, ho, hd, _⟩ := hn
    rw [e] at ho; cases ho; cases i <;> cases hd).trans e
  have nC : upd st' D (.list ys) C = none := by rw [upd_ne X.DC.symm]; exact X.nC
  refine P (.ref D) (.obj D) (upd st' D (.list ys)) h'' tk' (fun a o e g => ?_) ⟨fun a o e => (X.I.rep a o e).keep k fun o' e' => (S.2 a fun q => by subst q; rw [nC] at e; cases e).trans e', fun a o e => (S.2 a fun q => by subst q; rw [X.bC] at e; cases e).trans (X.I.base a o e), X.I.off⟩ (.obj D) (q D X.nD)
  obtain ⟨e', g'⟩ := X.S a o e g
  exact ⟨(S.2 a (X.new a o e g)).trans e', g'⟩

/-- x = a comprehension's list, on one row -/
theorem ES_AssignCompE {elt iter : Expr} {x y : Str} {px py : Pos} {ifs : List Expr} {scope : Scope} {pos spos : Pos} {Q : AFlow → Ren → St → Prop}
    (h : EV w b lev sc ρ iter st fun src st₁ => ∃ (xs : List AV) (J : Nat → List AV → St → Prop), CompTurns w b lev sc ρ scope x ifs elt src xs J st₁ fun ys st' => ∀ d, st' d = none → Q .next (ρ.set y (.obj d)) (upd st' d (.list ys)))
    (hy : sc.names.lookup y = some .local := by decide +kernel)
    (hsw : ∀ f : FId, swapsWith (.ListComp elt [⟨.Name x px, iter, ifs, 0⟩] scope pos) (some (.Name y py)) spos.line (f.env sc) = pure true := by intro _; with_unfolding_all rfl)
    (hkind : scope.kind = .function := by with_unfolding_all rfl) (hnames : ∀ y ∈ scope.names, y.2 = .local → scope.names.lookup y.1 = some .local := by decide +kernel) (hcell : ∀ y ∈ scope.names, y.2 ≠ .cell := by decide +kernel)
    (hcap : ∀ y ∈ scope.names, y.2 = .free → sc.names.lookup y.1 = some .cell := by decide +kernel) (hx : scope.names.lookup x = some .local := by decide +kernel)
    (hs : ∀ (f : FId) x, foldedSetIterable iter (f.env sc) x = pure x := by intro _ _; with_unfolding_all rfl) : ES w b lev sc ρ (.Assign [.Name y py] (.ListComp elt [⟨.Name x px, iter, ifs, 0⟩] scope pos) spos) st Q := by
  intro f A s R F I O Qc P
  dsimp only
  rw [exec_Assign_Name_used _ _ _ _ (hsw f)]
  refine wpAny_bind (wpAny_standAt (wpAny_bind ?_))
  show wpAny _ A (do let _ ← comprehension (.ListComp elt [⟨.Name x px, iter, ifs, 0⟩] scope pos) scope (f.env sc) _ (newList []) false (eval iter (f.env sc)) (some (assign (.Name y py) (f.env sc)))) _ _ s
  refine wpAny_bind (wpAny_mono (comp_coreE (Qc := fun _ s' => Qc .next s') (use := fun env => some (assign (.Name y py) env)) hkind hnames hcell hcap hx hs R F I O h fun D C ys st' h' tk' X q => ?_) (fun _ s' hq => wpAny_pure (wpAny_pure hq)) fun _ _ e => e)
  show wpAny _ A (assign (.Name y py) (f.env sc) (.ref D)) _ _ _
  refine wpAny_assign_Name (store_ (f := f) (st := upd st' D (.list ys)) X.F X.I X.O (.obj D) (.inl hy) fun h₂ tk₂ S₂ F₂ I₂ k₂ => ?_)
  obtain ⟨m, hn⟩ := X.ns
  have nC : upd st' D (.list ys) C = none := by rw [upd_ne X.DC.symm]; exact X.nC
  refine ⟨m, hn.at' fun o e => (S₂ C o e nC X.own).1, fun h'' S => ?_⟩
  have hn₂ : h₂.Ns C m := hn.at' fun o e => (S₂ C o e nC X.own).1
  have k : KeepT h₂ h'' := fun a o i e => (S.2 a fun q => by
    subst q
    obtain ⟨o', _, _, ho, hd, _⟩ := hn₂
    rw [e] at ho; cases ho; cases i <;> cases hd).trans e
  refine P .next .next (ρ.set y (.obj D)) (upd st' D (.list ys)) h'' tk₂ (fun a o e g n => ?_) (F₂.keep k (fun o e => (S.2 _ fun q => X.own (.inl q.symm)).trans e) fun p c hp o e => (S.2 _ fun q => X.own (.inr ⟨p, q ▸ hp⟩)).trans e)
    ⟨fun a o e => (I₂.rep a o e).keep k fun o' e' => (S.2 a fun q => by subst q; rw [nC] at e; cases e).trans e', fun a o e => (S.2 a fun q => by subst q; rw [X.bC] at e; cases e).trans (I₂.base a o e), I₂.off⟩ X.O .next (q D X.nD)
  obtain ⟨e', g'⟩ := X.S a o e g
  obtain ⟨e₂, g₂⟩ := S₂ a o e' g' n
  exact ⟨(S.2 a (X.new a o e g)).trans e₂, g₂⟩
/-! the same, the source known beforehand -/
theorem ES_For {target iter : Expr} {body : List Stmt} {pos : Pos} {Q : AFlow → Ren → St → Prop} (x : AV) (xs : List AV) (J : Nat → Ren → St → Prop)
    (h : EV w b lev sc ρ iter st fun x' st₁ => x' = x ∧ (∀ i ρ' st', J i ρ' st' → ItemsOf x st' xs) ∧ J 0 ρ st₁ ∧
      (∀ i y ρ' st', xs[i]? = some y → J i ρ' st' → ∃ ρ₂, AsgOK w b lev sc target y ρ' ρ₂ ∧ ∀ Q' : AFlow → Ren → St → Prop, (∀ ρ₃ st₃, J (i + 1) ρ₃ st₃ → Q' .next ρ₃ st₃) → EX w b lev sc ρ₂ body st' Q') ∧
      (∀ ρ' st', J xs.length ρ' st' → Q .next ρ' st'))
    (hs : ∀ (f : FId) x, foldedSetIterable iter (f.env sc) x = pure x := by intro _ _; with_unfolding_all rfl)
    (hg : ∀ (A : Around) (s : Shared) (I : Addr) (v : Value) (Q' : Unit → Shared → Prop) (i : Nat) (y : AV), Cur I s.heap x i → Rep s.heap v y → y ∈ xs → Q' () s → wpAny (model Pg w) A (letOwnedTupleGo target (.ref I) v) Q' NoE s) : ES w b lev sc ρ (.For target iter body [] pos) st Q :=
  ES_ForE (VJ.mono h fun v st' q => by obtain ⟨rfl, h1, h2, h3, h4⟩ := q; exact ⟨xs, J, h1, h2, h3, h4, hg⟩) hs
theorem EV_Comp {elt iter : Expr} {x : Str} {px : Pos} {ifs : List Expr} {scope : Scope} {pos : Pos} {Q : AV → St → Prop} (src : AV) (xs : List AV) (J : Nat → List AV → St → Prop)
    (h : EV w b lev sc ρ iter st fun x' st₁ => x' = src ∧ CompTurns w b lev sc ρ scope x ifs elt src xs J st₁ fun ys st' => ∀ d, st' d = none → Q (.obj d) (upd st' d (.list ys)))
    (hkind : scope.kind = .function := by with_unfolding_all rfl) (hnames : ∀ y ∈ scope.names, y.2 = .local → scope.names.lookup y.1 = some .local := by decide +kernel) (hcell : ∀ y ∈ scope.names, y.2 ≠ .cell := by decide +kernel)
    (hcap : ∀ y ∈ scope.names, y.2 = .free → sc.names.lookup y.1 = some .cell := by decide +kernel) (hx : scope.names.lookup x = some .local := by decide +kernel)
    (hs : ∀ (f : FId) x, foldedSetIterable iter (f.env sc) x = pure x := by intro _ _; with_unfolding_all rfl) : EV w b lev sc ρ (.ListComp elt [⟨.Name x px, iter, ifs, 0⟩] scope pos) st Q :=
  EV_CompE (VJ.mono h fun v st' q => by obtain ⟨rfl, q⟩ := q; exact ⟨xs, J, q⟩) hkind hnames hcell hcap hx hs
end

/-! F16 -/
section

variable {w : World} {b : Heap} {lev : Nat} {sc : Scope} {ρ : Ren} {st : St}

/-! ## a function made in the run, called -/
theorem EV_CallF {func e : Expr} {es : List Expr} {pos : Pos} {Q : AV → St → Prop}
    (h : EV w b lev sc ρ func st fun v st₁ => ∃ a o fd, v = .obj a ∧ o.data = .func fd ∧ IJ w b lev sc ρ pos (e :: es) st₁ fun xs st₂ => st₂ a = some (.raw o) ∧ CallOk w b lev (.ref a) xs st₂ Q)
    (he : ∀ env, eval (.Call func (e :: es) [] pos) env = (do callWith pos (← eval func env) [] (backTo pos (starEach (e :: es) env)) (backToKw pos (keywordEach [] env))) := by intro _; with_unfolding_all rfl)
    (h1 : ∀ env, starEach (e :: es) env = (false, eval e env) :: starEach es env := by intro _; with_unfolding_all rfl) : EV w b lev sc ρ (.Call func (e :: es) [] pos) st Q := by
  intro f A s R F I O Qc P
  refine Call_ (h f A s R F I O _ fun v av st₁ h₁ tk₁ S₁ I₁ r₁ q₁ => ?_) (he _)
  obtain ⟨a, o, fd, rfl, hd, hi⟩ := q₁
  cases r₁
  refine callWith_def (o := o) hd (hi f A _ R (F.step I O S₁) I₁ (F.off O S₁) _ fun vs xs st₂ h₂ tk₂ S₂ I₂ r₂ q₂ => ?_) (h1 _)
  obtain ⟨ea, hc⟩ := q₂
  refine ⟨(I₂.rep _ _ ea).1, hc A _ vs R I₂ r₂ _ fun v₃ av₃ st₃ h₃ tk₃ S₃ I₃ r₃ q₃ => ?_⟩
  exact P v₃ av₃ st₃ h₃ tk₃ ((S₁.trans S₂).trans S₃) I₃ r₃ q₃

/-- lst[k:], tup[k:] -/
theorem EV_SlLo {value lo : Expr} {p pos : Pos} {Q : AV → St → Prop}
    (h : EV w b lev sc ρ value st fun x st₁ => (∃ a xs k, x = .obj a ∧ st₁ a = some (.list xs) ∧ EV w b lev sc ρ lo st₁ (fun y st' => y = .int k ∧ st' = st₁) ∧ 0 ≤ k ∧ xs.length ≤ sizeLine ∧ ∀ c, st₁ c = none → Q (.obj c) (upd st₁ c (.list (xs.drop k.toNat)))) ∨
      (∃ (xs : List AV) (k : Int) (a : Nat), x = .tup xs ∧ EV w b lev sc ρ lo st₁ (fun y st' => y = .int k ∧ st' = st₁) ∧ Builtin.Slice.sliceAdjust (some k) none 1 (xs.length : Int) = ((a : Int), (xs.length : Int)) ∧ 1 ≤ a ∧ a ≤ xs.length ∧ xs.length ≤ sizeLine ∧ Q (.tup (xs.drop a)) st₁)) : EV w b lev sc ρ (.Subscript value (.Slice (some lo) none none p) pos) st Q := by
  intro f A s R F I O Qc P
  refine Subscript_ (h f A s R F I O _ fun v av st₁ h₁ tk₁ S₁ I₁ r₁ q₁ => ?_)
  rcases q₁ with q₁ | q₁
  · obtain ⟨a, xs, kk, rfl, ea, hk, h0, hz, hq⟩ := q₁
    have hy := pick_from' (xs := xs) h0
    have plo : SlPart w b lev sc ρ st₁ (some lo) (some kk) := .some hk
    have phi : SlPart w b lev sc ρ st₁ none none := .none
    cases r₁
    have F₁ := F.step I O S₁
    have O₁ := F.off O S₁
    refine wpAny_Slice (evalPart_of plo R F₁ I₁ O₁ fun vl h₂ tk₂ pl S₂ I₂ => ?_)
    refine evalPart_of phi R (F₁.step I₁ O₁ S₂) I₂ O₁ fun vu h₃ tk₃ pu S₃ I₃ => wpAny_pure ?_
    obtain ⟨S₄, I₄⟩ := step_push I₃ { cls := .type "slice", data := .fields #[vl, vu, .none] }
    obtain ⟨us, n, e, r⟩ := I₃.rep _ _ ea
    have hl : (h₃.push { cls := .type "slice", data := .fields #[vl, vu, .none] }).IsList a us.toArray := ⟨_, Heap.get?_push_of_some _ e, rfl, _, rfl⟩
    refine tail_any hl.typeIs slot_list_getitem.lookup (wpAny_getItem_list_slice hl (Heap.IsSliceOf.new ..) pl pu .none (by simp) ?_ (by rw [List.size_toArray, r.length]; exact hz)) rfl
    have k := (S₄.trans (step_push I₄ (lstO (slicePick us.toArray (some kk) none none).toList 0)).1).keepT I₃
    obtain ⟨S₅, I₅, hn⟩ := step_new I₄ (lstO (slicePick us.toArray (some kk) none none).toList 0) (.list (xs.drop kk.toNat)) ⟨_, 0, Heap.get?_push_size _ rfl, (hy us _ r).keep k⟩
    simp only [lstO, Array.toArray_toList] at S₅ I₅
    exact P _ _ _ _ tk₃ ((((S₁.trans S₂).trans S₃).trans S₄).trans S₅) I₅ (.obj _) (hq _ hn)
  · obtain ⟨xs, k, a, rfl, hk, hadj, h1, ha, hz, hq⟩ := q₁
    cases r₁ with
    | @tup t us n _ et rt =>
    have F₁ := F.step I O S₁
    have O₁ := F.off O S₁
    refine wpAny_Slice (evalPart_of (.some hk) R F₁ I₁ O₁ fun vl h₂ tk₂ pl S₂ I₂ => wpAny_pure (wpAny_pure ?_))
    obtain ⟨S₄, I₄⟩ := step_push I₂ { cls := .type "slice", data := .fields #[vl, .none, .none] }
    have k₂ := S₂.keepT I₁
    have k₄ := k₂.trans (S₄.keepT I₂)
    have et₂ := k₄ _ _ (.tup _ _) et
    have hsz : us.toArray.size = xs.length := by simp [rt.length]
    cases pl with
    | int _ u =>
    have ht : IsTup (h₂.push { cls := .type "slice", data := .fields #[.int k u, .none, .none] }) t us.toArray := ⟨_, et₂, rfl, _, rfl⟩
    refine tail_any ht.typeIs slot_tuple_getitem.lookup (getItem_tuple_k ht (Heap.IsSliceOf.new ..) (by rw [hsz]; exact hadj) h1 (by rw [hsz]; exact ha) ?_ (by rw [hsz]; exact hz)) rfl
    obtain ⟨S₅, I₅⟩ := step_push I₄ (tupO (us.drop a) 0)
    exact P _ _ _ _ tk₂ (((S₁.trans S₂).trans S₄).trans S₅) I₅ (.tup (Heap.get?_push_size _ rfl) ((rt.drop a).keep (k₄.trans (S₅.keepT I₄)))) hq

/-- the base with more of the heap in it -/
structure More (b b' h : Heap) (st : St) : Prop where
  sub : ∀ a o, b.get? a = some o → b'.get? a = some o
  at_ : ∀ a o, b'.get? a = some o → h.get? a = some o ∧ st a = none
theorem Inv.more {b' h : Heap} (I : Inv b st h) (m : More b b' h st) : Inv b' st h := ⟨I.rep, fun a o e => (m.at_ a o e).1, fun a o e => (m.at_ a o e).2⟩
theorem Inv.less {b' h : Heap} (I : Inv b' st h) (m : ∀ a o, b.get? a = some o → b'.get? a = some o) : Inv b st h := ⟨I.rep, fun a o e => I.base a o (m a o e), fun a o e => I.off a o (m a o e)⟩
theorem Inv.stepMore {b' h h' : Heap} {st' : St} (m : More b b' h st) (S : Step st h st' h') (I : Inv b st' h') : Inv b' st' h' :=
  ⟨I.rep, fun a o e => (S a o (m.at_ a o e).1 (m.at_ a o e).2).1, fun a o e => (S a o (m.at_ a o e).1 (m.at_ a o e).2).2⟩
theorem Gd.more {b' : Heap} (G : Gd w b) (m : ∀ a o, b.get? a = some o → b'.get? a = some o) (hl : b'.NoLimit) : Gd w b' where
  X := G.X.keeps m
  g := by obtain ⟨mg, g⟩ := G.g; exact ⟨mg, g.keeps m⟩
  bn := by obtain ⟨mb, g, r⟩ := G.bn; exact ⟨mb, g.keeps m, r⟩
  nolimit := hl
noncomputable def plusCells (b h : Heap) (cs : List Addr) : Heap := hideAll h ((List.range h.objs.size).filter fun a => (b.get? a).isNone && !cs.contains a)
theorem plus_more {h : Heap} (I : Inv b st h) (cs : List Addr) (hc : ∀ c ∈ cs, st c = none) : More b (plusCells b h cs) h st where
  sub := fun a o e => by
    refine hideAll_get _ (I.base a o e) fun hm => ?_
    have := (List.mem_filter.mp hm).2
    rw [e] at this; simp at this
  at_ := fun a o e => by
    have e' := of_hideAll _ e
    refine ⟨e', ?_⟩
    by_cases hm : a ∈ (List.range h.objs.size).filter fun a => (b.get? a).isNone && !cs.contains a
    · have := hideAll_none ((List.range h.objs.size).filter fun a => (b.get? a).isNone && !cs.contains a) (h := h) hm
      unfold plusCells at e
      rw [this] at e; cases e
    · cases hb : b.get? a with
      | some o' => exact I.off a o' hb
      | none =>
        by_cases hca : a ∈ cs
        · exact hc a hca
        · exact (hm (List.mem_filter.mpr ⟨List.mem_range.mpr (Heap.lt_size e'), by rw [hb]; simpa using hca⟩)).elim
theorem plus_cell {h : Heap} {cs : List Addr} {c : Addr} {v : Option Value} (hc : c ∈ cs) (e : h.IsCell c v) : (plusCells b h cs).IsCell c v := by
  obtain ⟨o, ho, hd⟩ := e
  refine ⟨o, hideAll_get _ ho fun hm => ?_, hd⟩
  have := (List.mem_filter.mp hm).2
  simp [hc] at this

/-- a def called, the frame's cells taken into the base -/
theorem EV_CallKR (G : Gd w b) {x : Str} {xp pos : Pos} {e : Expr} {es : List Expr} {v : Value} {cl : List (Str × Addr)} {cd : Value} (cs : List (Str × Int)) {Q : AV → St → Prop}
    (g : nsIn (hd.heap_1 w.params) mainGlobals x = some (some v)) (hk : keepIn (hd.heap_1 w.params) v = true)
    (hρ : ρ "<cl>" = some (.cells cl cd)) (hcs : ∀ p ∈ cs, ρ p.1 = some (.int p.2) ∧ sc.names.lookup p.1 = some .cell)
    (h : IJ w b lev sc ρ pos (e :: es) st fun xs st₂ => ∀ b' : Heap, Gd w b' → (∀ a o, b.get? a = some o → b'.get? a = some o) → (∀ p ∈ cs, ∃ c t, cl.lookup p.1 = some c ∧ b.get? c = none ∧ b'.IsCell c (some (.int p.2 t))) → CallOk w b' lev v xs st₂ Q)
    (hx : sc.names.lookup x = some .globalImplicit := by decide +kernel) (hdb : (x == ("__debug__" : Str)) = false := by decide +kernel)
    (he : ∀ env, eval (.Call (.Name x xp) (e :: es) [] pos) env = (do callWith pos (← eval (.Name x xp) env) [] (backTo pos (starEach (e :: es) env)) (backToKw pos (keywordEach [] env))) := by intro _; with_unfolding_all rfl)
    (h1 : ∀ env, starEach (e :: es) env = (false, eval e env) :: starEach es env := by intro _; with_unfolding_all rfl) (hp : ∀ env, (backTo pos (starEach es env)).any (·.1) = false := by intro _; with_unfolding_all rfl) : EV w b lev sc ρ (.Call (.Name x xp) (e :: es) [] pos) st Q := by
  intro f A s R F I O Qc P
  have hg : EV w b lev sc ρ (.Name x xp) st (fun y st₁ => y = .val v ∧ st₁ = st) := EV_globV G g ⟨rfl, rfl⟩ hx hdb
  refine Call_ (hg f A s R F I O _ fun v' av st₁ h₁ tk₁ S₁ I₁ r₁ q₁ => ?_) (he _)
  obtain ⟨rfl, e⟩ := q₁
  subst e
  cases r₁
  have F₁ := F.step I O S₁
  have O₁ := F.off O S₁
  refine callWith_K (I₁.inK G) hk (h f A { s with heap := h₁, toks := tk₁ } R F₁ I₁ O₁ _ fun vs xs st₂ h₂ tk₂ S₂ I₂ r₂ q₂ => ?_) (h1 _) (hp _)
  refine ⟨I₂.inK G, ?_⟩
  have F₂ := F₁.step I₁ O₁ S₂
  have O₂ := F₁.off O₁ S₂
  obtain ⟨hcl, -⟩ := F.clo cl cd hρ
  subst hcl
  have hcell : ∀ p ∈ cs, ∃ c t, f.cl.lookup p.1 = some c ∧ h₂.IsCell c (some (.int p.2 t)) := fun p hp => by
    obtain ⟨e1, e2⟩ := hcs p hp
    obtain ⟨c, u, a1, a2, a3⟩ := F₂.cel _ _ e1 (.inl e2)
    cases a3
    exact ⟨c, _, a1, a2⟩
  have hst : ∀ c ∈ cs.filterMap (fun p => f.cl.lookup p.1), st₂ c = none := fun c hc => by
    obtain ⟨p, hm, e⟩ := List.mem_filterMap.mp hc
    exact O₂.C p.1 _ e
  have M := plus_more I₂ _ hst
  have hl : (plusCells b h₂ (cs.filterMap fun p => f.cl.lookup p.1)).NoLimit := G.nolimit.keeps M.sub
  have G' := G.more M.sub hl
  have I' := I₂.more M
  have C' : ∀ p ∈ cs, ∃ c t, f.cl.lookup p.1 = some c ∧ b.get? c = none ∧ (plusCells b h₂ (cs.filterMap fun p => f.cl.lookup p.1)).IsCell c (some (.int p.2 t)) := fun p hp => by
    obtain ⟨c, t, e1, e2⟩ := hcell p hp
    exact ⟨c, t, e1, O₂.bC p.1 c e1, plus_cell (List.mem_filterMap.mpr ⟨p, hp, e1⟩) e2⟩
  generalize plusCells b h₂ (cs.filterMap fun p => f.cl.lookup p.1) = b' at *
  have q₃ := q₂ b' G' M.sub C'
  refine q₃ A _ vs R I' r₂ _ fun v₃ av₃ st₃ h₃ tk₃ S₃ I₃ r₃ q₃ => ?_
  exact P v₃ av₃ st₃ h₃ tk₃ ((S₁.trans S₂).trans S₃) (I₃.less M.sub) r₃ q₃
end

/-! F17 -/
section

variable {w : World} {b : Heap} {lev : Nat} {sc : Scope} {ρ : Ren} {st : St}

/-! ## a lambda: made, and called -/
theorem closure_free {env : Env} : ∀ (names : List (Str × NameKind)) (acc cl : List (Str × Addr)),
    (∀ x, (x, NameKind.free) ∈ names → ∃ c, env.cells.lookup x = some c) →
    (forIn names acc fun (p : Str × NameKind) (cs : List (Str × Addr)) => (if (p.2 == .free) = true then do let a ← cellOf env p.1; pure (ForInStep.yield ((p.1, a) :: cs)) else pure (ForInStep.yield cs) : Sem _)) = pure cl →
      ∀ x c, cl.lookup x = some c → acc.lookup x = some c ∨ ((x, NameKind.free) ∈ names ∧ env.cells.lookup x = some c)
  | [], acc, cl, _, e => fun x c h => by
    have e' : (pure acc : Sem (List (Str × Addr))) = pure cl := e
    have : acc = cl := by cases e'; rfl
    subst this; exact .inl h
  | (n, k) :: r, acc, cl, hh, e => fun x c h => by
    rw [List.forIn_cons] at e
    by_cases hk : (k == NameKind.free) = true
    · obtain ⟨c₀, hc⟩ := hh n (by rw [beq_iff_eq] at hk; subst hk; exact .head _)
      simp only [hk, if_true] at e
      unfold cellOf at e
      rw [hc] at e
      rcases closure_free r ((n, c₀) :: acc) cl (fun x hx => hh x (.tail _ hx)) e x c h with h | ⟨h1, h2⟩
      · rw [List.lookup_cons] at h
        cases hxn : x == n with
        | true =>
          rw [hxn] at h; cases h
          rw [beq_iff_eq] at hxn hk; subst hxn; subst hk
          exact .inr ⟨.head _, hc⟩
        | false => rw [hxn] at h; exact .inl h
      · exact .inr ⟨.tail _ h1, h2⟩
    · simp only [hk] at e
      rcases closure_free r acc cl (fun x hx => hh x (.tail _ hx)) e x c h with h | ⟨h1, h2⟩
      · exact .inl h
      · exact .inr ⟨.tail _ h1, h2⟩

structure LamBase (b : Heap) (c P : Addr) : Prop where
  mg : ∃ mg, b.Ns mainGlobals mg ∧ b.BuiltinsAt mg P
  cd : CodeHd b c P
  ne : mainGlobals ≠ P
structure LamIn (cl : List (Str × Addr)) (scope : Scope) (params : Arguments) (body : Expr) (st : St) (a : Addr) (qual : Str) (pm : Value) (c' : Addr) (ctv : Value) (oc : Obj) (vs : Array Value) (t : Tok) (clos : List (Str × Addr)) : Prop where
  f : st a = some (.raw (kla_obj "<lambda>" qual params body scope clos pm c' ctv))
  c : st c' = some (.raw oc)
  d : oc.data = .fields vs
  q : vs[1]? = some (.str qual t)
  sub : ∀ x c, clos.lookup x = some c → (x, NameKind.free) ∈ scope.names ∧ cl.lookup x = some c
  all : ∀ x, (x, NameKind.free) ∈ scope.names → ∃ c, clos.lookup x = some c
  apart : ∀ x y c, clos.lookup x = some c → clos.lookup y = some c → x = y
noncomputable def Lam (cl : List (Str × Addr)) (scope : Scope) (params : Arguments) (body : Expr) (st : St) (a : Addr) : Prop := ∃ qual pm c' ctv oc vs t clos, LamIn cl scope params body st a qual pm c' ctv oc vs t clos

theorem not_imm_fun {name qual : Str} {params : Arguments} {body : Expr} {scope : Scope} {clos : List (Str × Addr)} {pm ctv : Value} {c' : Addr} : ¬ Imm (kla_obj name qual params body scope clos pm c' ctv) := fun h => by
  have := h.cls; simp at this
theorem not_imm_code {o : Obj} {vs : Array Value} {q : Str} {t : Tok} (hd : o.data = .fields vs) (hv : vs[1]? = some (.str q t)) : ¬ Imm o := fun h => by
  cases h with
  | tup us n => cases hd
  | rng x y z i j k => cases hd; simp at hv
theorem not_imm_tab {ps : Array Value} : ¬ Imm (tabObj ps) := fun h => by
  have := h.cls; simp at this

theorem EV_Lambda {params : Arguments} {body : Expr} {scope : Scope} {pos : Pos} {c P : Addr} {ps : Array Value} {cl : List (Str × Addr)} {Q : AV → St → Prop}
    (hρ : ρ "<cl>" = some (.cells cl (.ref c))) (LB : LamBase b c P) (eP : st P = some (.raw (tabObj ps))) (ht : TriplesOk ps.toList) (hnf : codeAmong pos ps.toList = none)
    (hfree : ∀ x, (x, NameKind.free) ∈ scope.names → ∃ av, ρ x = some av ∧ sc.names.lookup x = some .cell)
    (h : ∀ a c' st', (∀ st'', Ch P st' st'' → Lam cl scope params body st'' a) → st' P = some (.raw (tabObj (ps ++ #[rawInt pos.line, rawInt pos.col, .ref c']))) → Ch P st st' → st a = none → (∀ d, st' d = none → st d = none) → Q (.obj a) st')
    (hdef : ∀ env, defaultsOf params env = ([], []) := by intro _; with_unfolding_all rfl) : EV w b lev sc ρ (.Lambda params body scope pos) st Q := by
  intro f A s R F I O Qc Pp
  obtain ⟨e1, e2⟩ := F.clo _ _ hρ
  have hcells : ∀ x, (x, NameKind.free) ∈ scope.names → ∃ c, (f.env sc).cells.lookup x = some c := fun x hx => by
    obtain ⟨av, h1, h2⟩ := hfree x hx
    obtain ⟨c, v, a1, -, -⟩ := F.cel x av h1 (.inl h2)
    exact ⟨c, a1⟩
  obtain ⟨clos, hcl, -, hc2⟩ := closure_of (env := f.env sc) scope.names [] hcells
  have hc1 := closure_free (env := f.env sc) scope.names [] clos hcells hcl
  have hcl' : closureFor scope (f.env sc) = pure clos := by
    unfold closureFor
    simp only [bind_pure]
    exact hcl
  have hsub : ∀ x c, clos.lookup x = some c → (x, NameKind.free) ∈ scope.names ∧ cl.lookup x = some c := fun x c e => by
    rcases hc1 x c e with h | ⟨h1, h2⟩
    · cases h
    · exact ⟨h1, by rw [← e1]; exact h2⟩
  obtain ⟨mg, hg, hbi⟩ := LB.mg
  refine kla_eval (hdef _) (kla_makeFunction (mg := mg) hcl' rfl (hg.keeps I.base) e2 (LB.cd.keeps I.base) (I.rep _ _ eP).1 ht hnf LB.ne (hbi.keeps I.base) fun c' ctv h' tk hx hge hlt hrec htb => ?_)
  obtain ⟨c₂, oc, vs, t, q1, hoc, hd, hv⟩ := hrec
  cases q1
  have hPlt : P < s.heap.objs.size := Heap.lt_size (I.rep _ _ eP).1
  have hPc : P ≠ c' := Nat.ne_of_lt (Nat.lt_of_lt_of_le hPlt hge)
  have hPf : P ≠ h'.objs.size := Nat.ne_of_lt (Nat.lt_trans (Nat.lt_of_lt_of_le hPlt hge) hlt)
  have hcf : c' ≠ h'.objs.size := Nat.ne_of_lt hlt
  have dead : ∀ a, s.heap.objs.size ≤ a → st a = none := fun a ha => I.dead (Heap.get?_none_of_le ha)
  have low : ∀ a, (∃ o, s.heap.get? a = some o) → a ≠ c' ∧ a ≠ h'.objs.size := fun a ⟨o, e⟩ => by
    have := Heap.lt_size e
    exact ⟨Nat.ne_of_lt (Nat.lt_of_lt_of_le this hge), Nat.ne_of_lt (Nat.lt_trans (Nat.lt_of_lt_of_le this hge) hlt)⟩
  have alive : ∀ a x, st a = some x → ∃ o, s.heap.get? a = some o := fun a x e => by
    cases hh : s.heap.get? a with
    | some o => exact ⟨o, rfl⟩
    | none => rw [I.dead hh] at e; cases e
  -- the new store
  let o₃ : Obj := kla_obj "<lambda>" ((f.env sc).qual ++ "<lambda>") params body scope clos ((mg "__name__").getD .none) c' ctv
  let st' : St := upd (upd (upd st P (.raw (tabObj (ps ++ #[rawInt pos.line, rawInt pos.col, .ref c'])))) c' (.raw oc)) h'.objs.size (.raw o₃)
  have s1 : st' h'.objs.size = some (.raw o₃) := upd_self
  have s2 : st' c' = some (.raw oc) := by show upd _ _ _ _ = _; rw [upd_ne hcf, upd_self]
  have s3 : st' P = some (.raw (tabObj (ps ++ #[rawInt pos.line, rawInt pos.col, .ref c']))) := by show upd _ _ _ _ = _; rw [upd_ne hPf, upd_ne hPc, upd_self]
  have s4 : ∀ a, a ≠ P → a ≠ c' → a ≠ h'.objs.size → st' a = st a := fun a n1 n2 n3 => by show upd _ _ _ _ = _; rw [upd_ne n3, upd_ne n2, upd_ne n1]
  have keep : ∀ a o, a ≠ P → s.heap.get? a = some o → (h'.push o₃).get? a = some o := fun a o n e => Heap.get?_push_of_some _ (hx a o n e)
  have kT : KeepT s.heap (h'.push o₃) := fun a o m e => keep a o (fun q => by subst q; exact (I.rep _ _ eP).notImm m e) e
  refine Pp _ (.obj h'.objs.size) st' _ tk (fun a o e n => ?_) ⟨fun a x e => ?_, fun a o e => ?_, fun a o e => ?_⟩ (.obj _) ?_
  · have nP : a ≠ P := fun q => by subst q; rw [eP] at n; cases n
    obtain ⟨n1, n2⟩ := low a ⟨o, e⟩
    exact ⟨keep a o nP e, by rw [s4 a nP n1 n2]; exact n⟩
  · by_cases h3 : a = h'.objs.size
    · subst h3; rw [s1] at e; cases e
      exact ⟨Heap.get?_push_size _ rfl, not_imm_fun⟩
    · by_cases h2 : a = c'
      · subst h2; rw [s2] at e; cases e
        exact ⟨Heap.get?_push_of_some _ hoc, not_imm_code hd hv⟩
      · by_cases h1 : a = P
        · subst h1; rw [s3] at e; cases e
          exact ⟨Heap.get?_push_of_some _ htb, not_imm_tab⟩
        · rw [s4 a h1 h2 h3] at e
          exact (I.rep a x e).keep kT fun o e => keep a o h1 e
  · have nP : a ≠ P := fun q => by subst q; have := I.off _ _ e; rw [eP] at this; cases this
    exact keep a o nP (I.base a o e)
  · have nP : a ≠ P := fun q => by subst q; have := I.off _ _ e; rw [eP] at this; cases this
    obtain ⟨n1, n2⟩ := low a ⟨o, I.base a o e⟩
    rw [s4 a nP n1 n2]; exact I.off a o e
  · refine h _ c' st' (fun st'' hch => ⟨(f.env sc).qual ++ "<lambda>", _, c', ctv, oc, vs, t, clos, ⟨hch _ _ hPf.symm s1, hch _ _ hPc.symm s2, hd, hv, hsub, fun x hx => hc2 x (.inl hx), fun x y c h1 h2 => F.apart x y c (by rw [e1]; exact (hsub x c h1).2) (by rw [e1]; exact (hsub y c h2).2)⟩⟩) s3 (fun a o n e => ?_) (dead _ (Nat.le_of_lt (Nat.lt_of_le_of_lt hge hlt))) fun d n => ?_
    · obtain ⟨n1, n2⟩ := low a (alive a o e)
      rw [s4 a n n1 n2]; exact e
    · by_cases h3 : d = h'.objs.size
      · subst h3; rw [s1] at n; cases n
      · by_cases h2 : d = c'
        · subst h2; rw [s2] at n; cases n
        · by_cases h1 : d = P
          · subst h1; rw [s3] at n; cases n
          · rw [s4 d h1 h2 h3] at n; exact n

@[reducible] noncomputable def lamRen (x1 x2 : Str) (a1 a2 : AV) (cs : List (Str × Int)) : Ren := fun z => if z = x1 then some a1 else if z = x2 then some a2 else (cs.lookup z).map .int

theorem CODE_lam {b' : Heap} (G : Gd w b') (hsub : ∀ a o, b.get? a = some o → b'.get? a = some o) {cl : List (Str × Addr)} (cs : List (Str × Int)) {scope : Scope} {params : Arguments} {body : Expr} {a : Addr} (x1 x2 : Str) {a1 a2 : AV} {Q : AV → St → Prop}
    (hcs : ∀ p ∈ cs, ∃ c t, cl.lookup p.1 = some c ∧ b.get? c = none ∧ b'.IsCell c (some (.int p.2 t)))
    (H : Lam cl scope params body st a)
    (h : EV w b lev scope (lamRen x1 x2 a1 a2 cs) body st Q)
    (hfree : ∀ x, (x, NameKind.free) ∈ scope.names → ∃ p ∈ cs, p.1 = x)
    (hcsf : ∀ p ∈ cs, scope.names.lookup p.1 = some .free)
    (h1 : scope.names.lookup x1 = some .local) (h2 : scope.names.lookup x2 = some .local) (h12 : x1 ≠ x2)
    (hb : ∀ qual clos pm cdv ct v1 v2, bindArgs (kla_fn "<lambda>" qual params body scope clos pm cdv ct) ⟨[v1, v2], []⟩ = pure [(x1, v1), (x2, v2)])
    (hnc : ∀ x ∈ scope.names, x.2 ≠ .cell) (hk : scope.kind = .function) (hco : scope.isCoroutine = false) (hgen : scope.isGenerator = false) : CodeOk w b' (lev + 1) (.ref a) [a1, a2] st Q := by
  intro A s vs R I r RR P
  obtain ⟨qual, pm, c', ctv, oc, ws, t, clos, H⟩ := H
  cases r with
  | @cons v1 vs _ _ r1 r =>
  cases r with
  | @cons v2 vs _ _ r2 r =>
  cases r
  have hroom : A.depth < recursionLimit := by have := R.dp; unfold recursionLimit; omega
  refine kla_callFunE (fd := kla_fn "<lambda>" qual params body scope clos pm (.ref c') ctv) hroom (I.rep _ _ H.f).1 rfl hco hgen rfl ⟨c', oc, ws, t, rfl, (I.rep _ _ H.c).1, H.d, H.q⟩ ?_
  rw [hb]
  have hloc : ∀ y ∈ [(x1, v1), (x2, v2)], scope.names.lookup y.1 = some .local := fun y hy => by
    rcases List.mem_cons.mp hy with rfl | hy
    · exact h1
    · rw [List.mem_singleton] at hy; subst hy; exact h2
  refine wpAny_pure (wpAny_newFunctionEnv hnc hloc (fun h₁ hns hsb => ⟨?_, ?_⟩) hk)
  · refine Heap.NoLimit.keeps G.nolimit fun a o e => ?_
    exact hsb.extBut a o (Nat.ne_of_lt (Heap.lt_size (I.base a o e))) (Heap.get?_push_of_some _ (I.base a o e))
  have hk₁ : ∀ b o, s.heap.get? b = some o → h₁.get? b = some o := fun b o e => hsb.extBut b o (Nat.ne_of_lt (Heap.lt_size e)) (Heap.get?_push_of_some _ e)
  have I₀ : Inv b st s.heap := I.less hsub
  have I₁ : Inv b st h₁ := ⟨fun a o e => (I.rep a o e).keep (fun _ _ _ e => hk₁ _ _ e) (fun o e => hk₁ _ _ e), fun a o e => hk₁ _ _ (I₀.base a o e), I₀.off⟩
  have M : More b b' s.heap st := ⟨hsub, fun a o e => ⟨I.base a o e, I.off a o e⟩⟩
  have cellOfC : ∀ x c, clos.lookup x = some c → ∃ i t, (x, i) ∈ cs ∧ b.get? c = none ∧ b'.IsCell c (some (.int i t)) := fun x c e => by
    obtain ⟨hf, hc⟩ := H.sub x c e
    obtain ⟨⟨y, i⟩, hp, rfl⟩ := hfree x hf
    obtain ⟨c₂, t, e1, e2, e3⟩ := hcs _ hp
    have : c₂ = c := by rw [hc] at e1; exact (Option.some.inj e1).symm
    subst this
    exact ⟨i, t, hp, e2, e3⟩
  have memOf : ∀ {x k}, scope.names.lookup x = some k → (x, k) ∈ scope.names := fun e => PySem.mem_of_lookup e
  have hcell : ∀ x, scope.names.lookup x ≠ some .cell := fun x e => hnc _ (memOf e) rfl
  let f : FId := ⟨s.heap.objs.size, clos, qual ++ ".<locals>.", some a, .ref c', some s.heap.objs.size⟩
  have hIC : ∀ {c v}, b'.IsCell c v → h₁.IsCell c v := fun ⟨o, ho, hd⟩ => ⟨o, hk₁ _ _ (I.base _ _ ho), hd⟩
  have F : FrOK f scope h₁ (lamRen x1 x2 a1 a2 cs) := by
    refine ⟨hk, ⟨_, hns, fun x av e l => ?_⟩, fun x av e l => ?_, fun x e => (hcell x e).elim, fun x c e => ?_, H.apart, fun cl' cd e => ?_⟩
    · unfold lamRen at e
      by_cases q1 : x = x1
      · subst q1; rw [if_pos rfl] at e; cases e
        refine ⟨v1, ?_, r1.keep fun _ _ _ e => hk₁ _ _ e⟩
        show List.lookup x [(x2, v2), (x, v1)] = some v1
        rw [List.lookup_cons, beq_false_of_ne h12, List.lookup_cons, beq_self_eq_true]
      · rw [if_neg q1] at e
        by_cases q2 : x = x2
        · subst q2; rw [if_pos rfl] at e; cases e
          refine ⟨v2, ?_, r2.keep fun _ _ _ e => hk₁ _ _ e⟩
          show List.lookup x [(x, v2), (x1, v1)] = some v2
          rw [List.lookup_cons, beq_self_eq_true]
        · rw [if_neg q2] at e
          cases e' : cs.lookup x with
          | none => rw [e'] at e; cases e
          | some i =>
            have := hcsf _ (PySem.mem_of_lookup e')
            rw [l] at this; cases this
    · unfold lamRen at e
      have l : scope.names.lookup x = some .free := l.elim (fun e => (hcell x e).elim) id
      have q1 : x ≠ x1 := fun q => by subst q; rw [l] at h1; cases h1
      have q2 : x ≠ x2 := fun q => by subst q; rw [l] at h2; cases h2
      rw [if_neg q1, if_neg q2] at e
      cases e' : cs.lookup x with
      | none => rw [e'] at e; cases e
      | some i =>
        rw [e'] at e; cases e
        obtain ⟨c, t, k1, k2, k3⟩ := hcs _ (PySem.mem_of_lookup e')
        obtain ⟨c₂, hc₂⟩ := H.all x (memOf l)
        have : c₂ = c := by have := (H.sub x c₂ hc₂).2; rw [k1] at this; exact (Option.some.inj this).symm
        subst this
        exact ⟨c₂, .int i t, hc₂, hIC k3, .int i t⟩
    · obtain ⟨i, t, -, -, k⟩ := cellOfC x c e
      exact ⟨_, hIC k⟩
    · unfold lamRen at e
      by_cases q1 : ("<cl>" : Str) = x1
      · rw [if_pos q1] at e; cases e; cases r1
      · rw [if_neg q1] at e
        by_cases q2 : ("<cl>" : Str) = x2
        · rw [if_pos q2] at e; cases e; cases r2
        · rw [if_neg q2] at e
          cases e' : cs.lookup ("<cl>" : Str) with
          | none => rw [e'] at e; cases e
          | some i => rw [e'] at e; cases e
  have bdead : ∀ a, s.heap.objs.size ≤ a → b.get? a = none := fun a ha => by
    cases e : b.get? a with
    | none => rfl
    | some o => exact absurd (Heap.lt_size (I₀.base a o e)) (Nat.not_lt.mpr ha)
  have O : Off b f st := ⟨I.dead get_size, fun x c e => by
    obtain ⟨i, t, -, -, o, ho, -⟩ := cellOfC x c e
    exact I.off c o ho, bdead _ (Nat.le_refl _), fun x c e => by
    obtain ⟨i, t, -, k, -⟩ := cellOfC x c e
    exact k⟩
  show codeAny _ _ (.expr body (f.env scope)) _ _
  refine kla_codeExpr (wpAny_mono (h f (A.deeper (f.env scope)) { s with heap := h₁, toks := s.toks + 2 } (roomDeeper R) F I₁ O (fun v s' => RR (.ok (.ret v)) s') fun v av st' h' tk' S I' r q => ?_) (fun _ _ x => x) fun _ _ x => x.elim)
  have S₀ : Step st s.heap st' h' := fun a o e n => S a o (hk₁ a o e) n
  exact P v av st' h' tk' S₀ (Inv.stepMore M S₀ I') r q
end

/-! F18 -/
section

variable {w : World} {b : Heap} {lev : Nat} {sc : Scope} {ρ : Ren} {st : St}

theorem ints_rep {h : Heap} : ∀ {vs : List Value} {ws : List Int}, IntsAre vs ws → RepAll h vs (ws.map .int)
  | _, _, .nil => .nil
  | _, _, .cons _ _ r => .cons (.int _ _) (ints_rep r)
/-- lst[:k] of a list of the base -/
theorem EV_SliceToB {value hi : Expr} {p pos : Pos} {Q : AV → St → Prop}
    (h : EV w b lev sc ρ value st fun x st₁ => ∃ a vs ws k, x = .obj a ∧ b.IsList a (List.toArray vs) ∧ IntsAre vs ws ∧ EV w b lev sc ρ hi st₁ (fun y st' => y = .int k ∧ st' = st₁) ∧ 0 ≤ k ∧ ws.length ≤ sizeLine ∧ ∀ c, st₁ c = none → Q (.obj c) (upd st₁ c (.list ((ws.map .int).take k.toNat)))) : EV w b lev sc ρ (.Subscript value (.Slice none (some hi) none p) pos) st Q := by
  intro f A s R F I O Qc P
  refine Subscript_ (h f A s R F I O _ fun v av st₁ h₁ tk₁ S₁ I₁ r₁ q₁ => ?_)
  obtain ⟨a, us, ws, k, rfl, ea, hints, hk, h0, hz, hq⟩ := q₁
  have plo : SlPart w b lev sc ρ st₁ none none := .none
  have phi : SlPart w b lev sc ρ st₁ (some hi) (some k) := .some hk
  cases r₁
  have F₁ := F.step I O S₁
  have O₁ := F.off O S₁
  refine wpAny_Slice (evalPart_of plo R F₁ I₁ O₁ fun vl h₂ tk₂ pl S₂ I₂ => ?_)
  refine evalPart_of phi R (F₁.step I₁ O₁ S₂) I₂ O₁ fun vu h₃ tk₃ pu S₃ I₃ => wpAny_pure ?_
  obtain ⟨S₄, I₄⟩ := step_push I₃ { cls := .type "slice", data := .fields #[vl, vu, .none] }
  obtain ⟨o, e1, e2, n, e3⟩ := ea
  have r : RepAll h₃ us (ws.map .int) := ints_rep hints
  have hl : (h₃.push { cls := .type "slice", data := .fields #[vl, vu, .none] }).IsList a us.toArray := ⟨o, Heap.get?_push_of_some _ (I₃.base _ _ e1), e2, n, e3⟩
  refine tail_any hl.typeIs slot_list_getitem.lookup (wpAny_getItem_list_slice hl (Heap.IsSliceOf.new ..) pl pu .none (by simp) ?_ (by rw [List.size_toArray, r.length, List.length_map]; exact hz)) rfl
  have kk := (S₄.trans (step_push I₄ (lstO (slicePick us.toArray none (some k) none).toList 0)).1).keepT I₃
  obtain ⟨S₅, I₅, hn⟩ := step_new I₄ (lstO (slicePick us.toArray none (some k) none).toList 0) (.list ((ws.map .int).take k.toNat)) ⟨_, 0, Heap.get?_push_size _ rfl, (pick_to h0 us _ r).keep kk⟩
  simp only [lstO, Array.toArray_toList] at S₅ I₅
  exact P _ _ _ _ tk₃ ((((S₁.trans S₂).trans S₃).trans S₄).trans S₅) I₅ (.obj _) (hq _ hn)

noncomputable abbrev twoCells (ax up : Int) : List (Str × Int) := [("across", ax), ("up", up)]
noncomputable abbrev CellsIn (b b' : Heap) (cl : List (Str × Addr)) (cs : List (Str × Int)) : Prop := ∀ p ∈ cs, ∃ c t, cl.lookup p.1 = some c ∧ b.get? c = none ∧ b'.IsCell c (some (.int p.2 t))
theorem EV_CallLed (G : Gd w b) {x : Str} {xp pos : Pos} {e : Expr} {es : List Expr} {cl : List (Str × Addr)} {cd : Value} {ax up : Int} {Q : AV → St → Prop}
    (g : nsIn (hd.heap_1 w.params) mainGlobals x = some (some (.ref 288))) (hk : keepIn (hd.heap_1 w.params) (.ref 288) = true)
    (hρ : ρ "<cl>" = some (.cells cl cd)) (h1 : ρ "across" = some (.int ax)) (h2 : ρ "up" = some (.int up))
    (h : IJ w b lev sc ρ pos (e :: es) st fun xs st₂ => ∀ b' : Heap, Gd w b' → (∀ a o, b.get? a = some o → b'.get? a = some o) → CellsIn b b' cl (twoCells ax up) → CallOk w b' lev (.ref 288) xs st₂ Q)
    (n1 : sc.names.lookup (("across" : Str)) = some .cell := by decide +kernel) (n2 : sc.names.lookup (("up" : Str)) = some .cell := by decide +kernel)
    (hx : sc.names.lookup x = some .globalImplicit := by decide +kernel) (hdb : (x == ("__debug__" : Str)) = false := by decide +kernel)
    (he : ∀ env, eval (.Call (.Name x xp) (e :: es) [] pos) env = (do callWith pos (← eval (.Name x xp) env) [] (backTo pos (starEach (e :: es) env)) (backToKw pos (keywordEach [] env))) := by intro _; with_unfolding_all rfl)
    (h3 : ∀ env, starEach (e :: es) env = (false, eval e env) :: starEach es env := by intro _; with_unfolding_all rfl) (hp : ∀ env, (backTo pos (starEach es env)).any (·.1) = false := by intro _; with_unfolding_all rfl) : EV w b lev sc ρ (.Call (.Name x xp) (e :: es) [] pos) st Q := by
  refine EV_CallKR G (twoCells ax up) g hk hρ (fun p hp => ?_) h hx hdb he h3 hp
  rcases List.mem_cons.mp hp with rfl | hp
  · exact ⟨h1, n1⟩
  · rw [List.mem_singleton] at hp; subst hp; exact ⟨h2, n2⟩

/-- what `lead` does -/
structure LeadOk (w : World) (b : Heap) (cl : List (Str × Addr)) (ax up : Int) (st : St) (a : Addr) (f : Int × Int → Int × Int) : Prop where
  ob : ∃ o fd, st a = some (.raw o) ∧ o.data = .func fd
  run : ∀ b' : Heap, Gd w b' → (∀ a o, b.get? a = some o → b'.get? a = some o) → CellsIn b b' cl (twoCells ax up) → ∀ st', Ext st st' → ∀ (p : Int × Int) (Q' : AV → St → Prop), Q' (pav (f p)) st' → CodeOk w b' 1 (.ref a) [.int p.1, .int p.2] st' Q'
theorem LeadOk.ext {cl : List (Str × Addr)} {ax up : Int} {st' : St} {a : Addr} {f : Int × Int → Int × Int} (H : LeadOk w b cl ax up st a f) (e : Ext st st') : LeadOk w b cl ax up st' a f :=
  ⟨by obtain ⟨o, fd, h1, h2⟩ := H.ob; exact ⟨o, fd, e _ _ h1, h2⟩, fun b' G m c st'' x => H.run b' G m c st'' (e.trans x)⟩
theorem Lam.ob {cl : List (Str × Addr)} {scope : Scope} {params : Arguments} {body : Expr} {a : Addr} (H : Lam cl scope params body st a) : ∃ o fd, st a = some (.raw o) ∧ o.data = .func fd := by
  obtain ⟨qual, pm, c', ctv, oc, vs, t, clos, H⟩ := H
  exact ⟨_, _, H.f, rfl⟩
theorem Lam.ext {cl : List (Str × Addr)} {scope : Scope} {params : Arguments} {body : Expr} {a : Addr} {st' : St} (H : Lam cl scope params body st a) (e : Ext st st') : Lam cl scope params body st' a := by
  obtain ⟨qual, pm, c', ctv, oc, vs, t, clos, H⟩ := H
  exact ⟨qual, pm, c', ctv, oc, vs, t, clos, e _ _ H.f, e _ _ H.c, H.d, H.q, H.sub, H.all, H.apart⟩

/-- the law's body, n statements down -/
noncomputable def LawOk (w : World) (b : Heap) (lev n : Nat) (ρ : Ren) (st : St) (Q : AFlow → Ren → St → Prop) : Prop :=
  ∀ ⦃name qual : Str⦄ ⦃params : Arguments⦄ ⦃body : List Stmt⦄ ⦃scope : Scope⦄ ⦃dV kV doc pm cdv ct oc : Value⦄ ⦃an od : Option Addr⦄ ⦃osl : Array (Option Value)⦄,
    (hd.heap_1 w.params).lookup 317 = some ⟨oc, od, .func (fnOf name qual params body scope dV kV doc pm an cdv ct), osl⟩ → EX w b lev scope ρ (body.drop n) st Q
theorem LawOk.intro {n : Nat} {Q : AFlow → Ren → St → Prop} {name qual : Str} {params : Arguments} {body bs : List Stmt} {scope : Scope} {dV kV doc pm cdv ct oc : Value} {an od : Option Addr} {osl : Array (Option Value)}
    (ho : (hd.heap_1 w.params).lookup 317 = some ⟨oc, od, .func (fnOf name qual params body scope dV kV doc pm an cdv ct), osl⟩) (hbs : body.drop n = bs) (h : EX w b lev scope ρ bs st Q) : LawOk w b lev n ρ st Q := by
  intro name' qual' params' body' scope' dV' kV' doc' pm' cdv' ct' oc' an' od' osl' ho'
  rw [ho] at ho'
  injection ho' with ho'
  injection ho' with h1 h2 h3 h4
  injection h3 with h3
  injection h3 with k1 k2 k3 k4 k5 k6 k7 k8 k9 k10 k11 k12 k13 k14 k15
  injection k4 with k4
  subst k4; subst k5; subst hbs
  exact h
end

/-! PL1 -/
section


theorem fdiv2 (x : Int) : x.fdiv 2 = x / 2 := Int.fdiv_eq_ediv_of_nonneg _ (by decide)
theorem half_comm (p q : Pt) : half p q = half q p := by unfold half; rw [Int.add_comm p.1, Int.add_comm p.2]
noncomputable def Quad.rev (q : Quad) : Quad := ⟨q.d, q.c, q.b, q.a⟩
noncomputable def Quad.map (f : Pt → Pt) (q : Quad) : Quad := ⟨f q.a, f q.b, f q.c, f q.d⟩
theorem Quad.rev_ahead (q : Quad) : q.rev.ahead = q.behind.rev := by
  unfold Quad.rev Quad.ahead Quad.behind Quad.mid
  dsimp only
  rw [half_comm q.d q.c, half_comm q.c q.b, half_comm q.b q.a, half_comm (half q.c q.d) (half q.b q.c), half_comm (half q.b q.c) (half q.a q.b), half_comm (half (half q.b q.c) (half q.c q.d))]
theorem Quad.rev_behind (q : Quad) : q.rev.behind = q.ahead.rev := by
  unfold Quad.rev Quad.ahead Quad.behind Quad.mid
  dsimp only
  rw [half_comm q.d q.c, half_comm q.c q.b, half_comm q.b q.a, half_comm (half q.c q.d) (half q.b q.c), half_comm (half q.b q.c) (half q.a q.b), half_comm (half (half q.b q.c) (half q.c q.d))]
theorem maxI_comm (x y : Int) : maxI x y = maxI y x := by unfold maxI; split <;> split <;> omega
theorem far1_rev (a b c d : Int) : far1 d c b a = far1 a b c d := by unfold far1; rw [maxI_comm]
theorem Quad.rev_flat (q : Quad) (fl : Int) : q.rev.flat fl = q.flat fl := by
  unfold Quad.flat Quad.far Quad.rev
  dsimp only
  rw [far1_rev q.a.1 q.b.1 q.c.1 q.d.1, far1_rev q.a.2 q.b.2 q.c.2 q.d.2]
theorem ends_ne : ∀ (k : Nat) (q : Quad) (fl : Int), ends k q fl ≠ []
  | 0, q, fl => by simp [ends]
  | k + 1, q, fl => by
    unfold ends; split
    · simp
    · have := ends_ne k q.behind fl; simp [this]
theorem ends_last : ∀ (k : Nat) (q : Quad) (fl : Int), (ends k q fl).getLast? = some q.d
  | 0, q, fl => by simp [ends]
  | k + 1, q, fl => by
    unfold ends; split
    · simp
    · rw [List.getLast?_append, ends_last k q.behind fl]; rfl
/-- a curve told the other way -/
theorem ends_rev : ∀ (k : Nat) (q : Quad) (fl : Int), q.rev.a :: ends k q.rev fl = (q.a :: ends k q fl).reverse
  | 0, q, fl => by simp [ends, Quad.rev]
  | k + 1, q, fl => by
    have h1 := ends_rev k q.ahead fl
    have h2 := ends_rev k q.behind fl
    unfold ends
    rw [Quad.rev_flat]
    split
    · simp [Quad.rev]
    · rw [Quad.rev_ahead, Quad.rev_behind]
      have e1 : q.rev.a = q.behind.rev.a := rfl
      rw [e1, ← List.cons_append, h2]
      have e2 : q.ahead.rev.a = q.behind.a := rfl
      rw [e2] at h1
      simp only [List.reverse_cons, List.append_assoc, List.cons_append, List.nil_append] at h1 ⊢
      rw [h1]
      simp [Quad.ahead]
/-- curves moved -/
theorem ends_map {f : Pt → Pt} (hh : ∀ p q, half (f p) (f q) = f (half p q)) (hf : ∀ (q : Quad) fl, (q.map f).flat fl = q.flat fl) : ∀ (k : Nat) (q : Quad) (fl : Int), ends k (q.map f) fl = (ends k q fl).map f
  | 0, q, fl => by simp [ends, Quad.map]
  | k + 1, q, fl => by
    have h1 := ends_map hh hf k q.ahead fl
    have h2 := ends_map hh hf k q.behind fl
    unfold ends
    rw [hf]
    have e1 : (q.map f).ahead = q.ahead.map f := by simp [Quad.map, Quad.ahead, Quad.mid, hh]
    have e2 : (q.map f).behind = q.behind.map f := by simp [Quad.map, Quad.behind, Quad.mid, hh]
    split
    · simp [Quad.map]
    · rw [e1, e2, h1, h2, List.map_append]
noncomputable def moveBy (x y : Int) (p : Pt) : Pt := (p.1 + x, p.2 + y)
noncomputable def swapPt (p : Pt) : Pt := (p.2, p.1)
theorem half_move (x y : Int) (p q : Pt) : half (moveBy x y p) (moveBy x y q) = moveBy x y (half p q) := by
  unfold half moveBy
  simp only [fdiv2, Prod.mk.injEq]
  omega
theorem half_swap (p q : Pt) : half (swapPt p) (swapPt q) = swapPt (half p q) := rfl
theorem far1_move (x a b c d : Int) : far1 (a + x) (b + x) (c + x) (d + x) = far1 a b c d := by
  unfold far1
  rw [show 3 * (b + x) - 2 * (a + x) - (d + x) = 3 * b - 2 * a - d by omega, show 3 * (c + x) - 2 * (d + x) - (a + x) = 3 * c - 2 * d - a by omega]
theorem flat_move (x y : Int) (q : Quad) (fl : Int) : (q.map (moveBy x y)).flat fl = q.flat fl := by
  unfold Quad.flat Quad.far Quad.map moveBy
  dsimp only
  rw [far1_move, far1_move]
theorem flat_swap (q : Quad) (fl : Int) : (q.map swapPt).flat fl = q.flat fl := by
  unfold Quad.flat Quad.far Quad.map swapPt
  dsimp only
  rw [Int.add_comm]
/-- finer -/
theorem flat_mono {q : Quad} {f g : Int} (h0 : 0 ≤ f) (h : f ≤ g) (hq : q.flat f = true) : q.flat g = true := by
  unfold Quad.flat at *
  simp only [decide_eq_true_eq] at *
  have : f ^ 2 ≤ g ^ 2 := by
    rw [Int.pow_succ, Int.pow_succ, Int.pow_succ, Int.pow_succ]
    simp only [Int.pow_zero, Int.one_mul]
    exact Int.mul_le_mul h h h0 (Int.le_trans h0 h)
  omega
theorem ends_finer {f g : Int} (h0 : 0 ≤ f) (h : f ≤ g) : ∀ (k : Nat) (q : Quad), (ends k q g).Sublist (ends k q f)
  | 0, q => by simp [ends]
  | k + 1, q => by
    have h1 := ends_finer h0 h k q.ahead
    have h2 := ends_finer h0 h k q.behind
    by_cases hg : q.flat g = true
    · have e : ends (k + 1) q g = [q.d] := by unfold ends; rw [if_pos hg]
      rw [e, List.singleton_sublist]
      exact List.mem_of_getLast? (ends_last (k + 1) q f)
    · have hf : ¬ q.flat f = true := fun x => hg (flat_mono h0 h x)
      unfold ends
      rw [if_neg hg, if_neg hf]
      exact h1.append h2
theorem ends_small : ∀ (k : Nat) (q : Quad) (fl : Int) (B : Pt → Prop), (∀ p q, B p → B q → B (half p q)) → B q.a → B q.b → B q.c → B q.d → ∀ p ∈ ends k q fl, B p
  | 0, q, fl, B, hb, ha, h1, h2, hd => by simp [ends, hd]
  | k + 1, q, fl, B, hb, ha, h1, h2, hd => by
    intro p hp
    unfold ends at hp
    split at hp
    · rw [List.mem_singleton] at hp; subst hp; exact hd
    · rcases List.mem_append.mp hp with hp | hp
      · exact ends_small k q.ahead fl B hb ha (hb _ _ ha h1) (hb _ _ (hb _ _ ha h1) (hb _ _ h1 h2)) (hb _ _ (hb _ _ (hb _ _ ha h1) (hb _ _ h1 h2)) (hb _ _ (hb _ _ h1 h2) (hb _ _ h2 hd))) p hp
      · exact ends_small k q.behind fl B hb (hb _ _ (hb _ _ (hb _ _ ha h1) (hb _ _ h1 h2)) (hb _ _ (hb _ _ h1 h2) (hb _ _ h2 hd))) (hb _ _ (hb _ _ h1 h2) (hb _ _ h2 hd)) (hb _ _ h2 hd) hd p hp
/-! ## how many -/
theorem ends_len : ∀ (k : Nat) (q : Quad) (fl : Int), (ends k q fl).length ≤ 2 ^ k
  | 0, q, fl => by simp [ends]
  | k + 1, q, fl => by
    have h1 := ends_len k q.ahead fl
    have h2 := ends_len k q.behind fl
    have hp := Nat.one_le_two_pow (n := k)
    unfold ends; split
    · simp [Nat.pow_succ]; omega
    · rw [List.length_append, Nat.pow_succ]; omega
/-- second differences -/
structure Bd (M : Int) (a b c d : Int) : Prop where
  l1 : -M ≤ a - 2 * b + c
  h1 : a - 2 * b + c ≤ M
  l2 : -M ≤ b - 2 * c + d
  h2 : b - 2 * c + d ≤ M
structure Quad.Bd (M : Int) (q : Quad) : Prop where
  x : Mine.Bd M q.a.1 q.b.1 q.c.1 q.d.1
  y : Mine.Bd M q.a.2 q.b.2 q.c.2 q.d.2
theorem Bd.rev {M a b c d : Int} (h : Bd M a b c d) : Bd M d c b a := by
  obtain ⟨l1, h1, l2, h2⟩ := h
  exact ⟨by omega, by omega, by omega, by omega⟩
theorem Bd.ahead {M N a b c d : Int} (hN : M + 4 ≤ 4 * N) (h : Bd M a b c d) : Bd N a ((a + b) / 2) (((a + b) / 2 + (b + c) / 2) / 2) ((((a + b) / 2 + (b + c) / 2) / 2 + ((b + c) / 2 + (c + d) / 2) / 2) / 2) := by
  obtain ⟨l1, h1, l2, h2⟩ := h
  exact ⟨by omega, by omega, by omega, by omega⟩
theorem Quad.Bd.rev {M : Int} {q : Quad} (h : q.Bd M) : q.rev.Bd M := ⟨h.x.rev, h.y.rev⟩
theorem Quad.Bd.ahead {M N : Int} {q : Quad} (hN : M + 4 ≤ 4 * N) (h : q.Bd M) : q.ahead.Bd N := by
  refine ⟨?_, ?_⟩
  · have := h.x.ahead hN
    simpa only [Quad.ahead, Quad.mid, half, fdiv2] using this
  · have := h.y.ahead hN
    simpa only [Quad.ahead, Quad.mid, half, fdiv2] using this
theorem Quad.rev_rev (q : Quad) : q.rev.rev = q := rfl
theorem Quad.Bd.behind {M N : Int} {q : Quad} (hN : M + 4 ≤ 4 * N) (h : q.Bd M) : q.behind.Bd N := by
  have := (h.rev.ahead hN).rev
  rw [Quad.rev_ahead, Quad.rev_rev] at this
  exact this
theorem far1_le {M a b c d : Int} (h : Mine.Bd M a b c d) : far1 a b c d ≤ 9 * (M * M) := by
  obtain ⟨l1, h1, l2, h2⟩ := h
  have hm : 0 ≤ maxI (absI (3 * b - 2 * a - d)) (absI (3 * c - 2 * d - a)) ∧ maxI (absI (3 * b - 2 * a - d)) (absI (3 * c - 2 * d - a)) ≤ 3 * M := by
    unfold maxI absI
    constructor <;> (repeat' split) <;> omega
  unfold far1
  generalize maxI (absI (3 * b - 2 * a - d)) (absI (3 * c - 2 * d - a)) = m at hm
  have := Int.mul_le_mul hm.2 hm.2 hm.1 (Int.le_trans hm.1 hm.2)
  have e : m ^ 2 = m * m := by rw [Int.pow_succ, Int.pow_succ]; simp
  have e2 : 3 * M * (3 * M) = 9 * (M * M) := by rw [Int.mul_assoc, Int.mul_left_comm M 3 M, ← Int.mul_assoc]; rfl
  omega
theorem flat_of {M fl : Int} {q : Quad} (h : q.Bd M) (hf : 18 * (M * M) ≤ 16 * (fl * fl)) : q.flat fl = true := by
  unfold Quad.flat Quad.far
  have h1 := far1_le h.x
  have h2 := far1_le h.y
  have e : fl ^ 2 = fl * fl := by rw [Int.pow_succ, Int.pow_succ]; simp
  rw [e, decide_eq_true_eq]
  omega
noncomputable def bdIt : Nat → Int → Int
  | 0, M => M
  | j + 1, M => bdIt j ((M + 7) / 4)
theorem ends_bd {fl : Int} : ∀ (j k : Nat) (q : Quad) (M : Int), q.Bd M → 18 * (bdIt j M * bdIt j M) ≤ 16 * (fl * fl) → (ends k q fl).length ≤ 2 ^ j
  | 0, k, q, M, h, hf => by
    have := flat_of h hf
    cases k with
    | zero => simp [ends]
    | succ k => simp [ends, this]
  | j + 1, k, q, M, h, hf => by
    have hp := Nat.one_le_two_pow (n := j)
    cases k with
    | zero => simp [ends, Nat.pow_succ]; omega
    | succ k =>
      have hN : M + 4 ≤ 4 * ((M + 7) / 4) := by omega
      have h1 := ends_bd j k q.ahead _ (h.ahead hN) hf
      have h2 := ends_bd j k q.behind _ (h.behind hN) hf
      unfold ends; split
      · simp [Nat.pow_succ]; omega
      · rw [List.length_append, Nat.pow_succ]; omega
end

local macro_rules | `(tactic| ks_step "fill") => `(tactic| (refine (show (fun (_ : OpenLaw) (_ : Params → Frag) (P : Prop) => P) PySem.Challenge.rw_rh0179_01 Mine.hd.heap_1 _ from ?_); k_fill; (try show CodeOk _ _ _ _ _ _ _)))
-- the head of a call
local macro_rules | `(tactic| ks_step "def") => `(tactic| (
  case ho => k_is
  case hcd => k_is
  case hb => intro s vs X h; rcases vs with _ | ⟨v1, _ | ⟨v2, _ | ⟨v3, _ | ⟨v4, _ | ⟨v5, _ | ⟨v6, _ | ⟨v7, _ | ⟨v8, r⟩⟩⟩⟩⟩⟩⟩⟩ <;> first | (simp at h; done) | exact BindsTo.of_eq rfl | exact binds_K X rfl (by k_is) rfl rfl rfl
  case hl => rfl
  (try (case hds => intro h; first | exact .nil | exact .cons (.int _ _) .nil | exact .cons .none .nil))
  case hn => rfl
  case hk => rfl
  case hco => rfl
  case hgen => rfl
  (try simp only [List.zip_cons_cons, List.zip_nil_left, List.zip_nil_right, Ren.sets_cons, Ren.sets_nil, List.cons_append, List.nil_append])))
-- a name
local macro_rules | `(tactic| ks_step "look") => `(tactic| ((repeat (with_reducible refine Ren.miss ?_ (by decide +kernel))); first | with_reducible exact Ren.hit | with_reducible assumption | rfl | assumption))
local macro_rules | `(tactic| ks_step "n") => `(tactic| ((with_reducible refine' EV_nm2 ?h ?_ ?hk ?hd ?hc); (case hk => decide +kernel); (case h => ks_step "look"); (case hd => kernel_rfl); (case hc => kernel_rfl)))
-- a call
local macro_rules | `(tactic| ks_step "c") => `(tactic| first
  | ((with_reducible refine' EV_CallK (by assumption) ?g ?k ?_); (case g => k_is); (case k => k_is))
  | ((with_reducible refine' EV_CallK0 (by assumption) ?g ?k ?_); (case g => k_is); (case k => k_is))
  | ((with_reducible refine' EV_CallBu (by assumption) ?g ?k ?hn ?_); (case g => k_is); (case k => boot_by_name); (case hn => decide))
  | ((with_reducible refine' EV_CallTy (by assumption) ?g ?k ?hn ?_); (case g => k_is); (case k => boot_by_name); (case hn => decide)))
local macro_rules | `(tactic| ks_step "dat") => `(tactic| first | rfl | assumption | decide +kernel | (simp only [AV.dat, AV.dats, Bool.and_true]; decide +kernel) | exact row_dat _ | exact kd_dat _)
-- one step
local macro_rules | `(tactic| ks_step "call") => `(tactic| first
  | ks_step "c"
  | (with_reducible refine' EV_append ?_)
  | ((with_reducible refine' EV_MethP (by assumption) ?k1 ?k2 ?k3 ?k4 ?k5 ?_); (case k1 => k_is); (case k2 => k_is); (case k3 => k_is); (case k4 => k_is); (case k5 => k_is))
  | ((with_reducible refine' EV_MethP0 (by assumption) ?k1 ?k2 ?k3 ?k4 ?k5 ?_); (case k1 => k_is); (case k2 => k_is); (case k3 => k_is); (case k4 => k_is); (case k5 => k_is))
  | (with_reducible refine' EV_pop ?_)
  | (with_reducible refine' EV_extend ?_))
local macro_rules | `(tactic| ks_step "ev") => `(tactic| ((with_reducible refine (?_ : EV _ _ _ _ _ _ _ _)); first
  | ks_step "n"
  | (with_reducible first
  | refine EV_int ?_
  | refine EV_str ?_
  | refine EV_Tuple ?_
  | refine EV_BinOp ?_
  | refine EV_SlLo ?_
  | refine EV_SliceTo ?_
  | refine EV_RevList ?_
  | refine EV_Sub ?_
  | refine EV_Cmp ?_
  | refine EV_List ?_
  | refine EV_none ?_
  | refine EV_neg1 ?_
  | refine EV_IfExp ?_)
  | ks_step "call"
  | ((with_reducible refine' EV_AttrP (by assumption) ?k1 ?k2 ?k3 ?_); (case k1 => k_is); (case k2 => k_is); (case k3 => k_is))
  | ((with_reducible refine' EV_globI (by assumption) ?g ?_); (case g => k_is))))
local macro_rules | `(tactic| ks_step "es") => `(tactic| ((with_reducible refine (?_ : ES _ _ _ _ _ _ _ _)); first
  | (with_reducible first
  | refine ES_Assign ?_
  | refine ES_If ?_
  | refine ES_Expr ?_
  | refine ES_Ret ?_
  | refine ES_Ret0 ?_
  | refine ES_AssignSub ?_
  | refine ES_UnpA ?_
  | refine ES_UnpB ?_)
  | ((with_reducible refine' ES_Aug ?hx ?_); (case hx => ks_step "look"))
  | ((with_reducible refine' ES_AttrP (by assumption) ?k1 ?k2 ?k3 ?k4 ?_); (case k1 => k_is); (case k2 => k_is); (case k3 => k_is); (case k4 => k_is))))
local macro_rules | `(tactic| ks_step "tj") => `(tactic| ((with_reducible refine (?_ : TJ _ _ _ _ _ _ _ _)); with_reducible first
  | refine TJ_neNil ?_
  | refine TJ_eqNil ?_
  | refine TJ_Cmp ?_
  | refine TJ_BoolOp ?_))
local macro_rules | `(tactic| ks_step "at_") => `(tactic| ((with_reducible refine (?_ : AT _ _ _ _ _ _ _ _ _)); with_reducible first
  | refine AT_and_cons ?_
  | refine AT_or_cons ?_
  | refine AT_and_nil ?_
  | refine AT_or_nil ?_))
local macro_rules | `(tactic| ks_step "bin") => `(tactic| ((with_reducible refine (?_ : BIN _ _ _ _ _ _ _ _)); first
  | (with_reducible first
  | refine BIN_add ?_
  | refine BIN_sub ?_)
  | (with_reducible refine BIN_mul (IntMulOk.of_left (by decide)) ?_)
  | ((with_reducible refine' BIN_pow ?h0 ?h1 ?hx ?_); (case h0 => decide); (case h1 => decide); (case hx => first | assumption | omega))
  | (with_reducible refine BIN_fdiv (by decide) (by decide) ?_)))
local macro_rules | `(tactic| ks_step "cmp") => `(tactic| ((with_reducible refine (?_ : CMP _ _ _ _ _ _ _ _)); first
  | (with_reducible first
  | refine CMP_lt ?_
  | refine CMP_le ?_
  | refine CMP_gt ?_)
  | ((with_reducible refine' CMP_eq ?hx ?hy ?_); (case hx => ks_step "dat"); (case hy => ks_step "dat"))
  | ((with_reducible refine' CMP_ne ?hx ?hy ?_); (case hx => ks_step "dat"); (case hy => ks_step "dat"))
  | ((with_reducible refine' CMP_in ?hx ?hy ?_); (case hx => ks_step "dat"); (case hy => ks_step "dat"))
  | ((with_reducible refine' CMP_is_none ?hv ?_); (case hv => intro v h; cases h; done))
  | ((with_reducible refine' CMP_isnt_none ?hv ?_); (case hv => intro v h; cases h; done))))
local macro_rules | `(tactic| ks_step "s") => `(tactic| first
  | ks_step "ev"
  | (with_reducible refine IJ_cons ?_)
  | (with_reducible refine IJ_nil ?_)
  | ks_step "bin"
  | (with_reducible refine EX_cons ?_)
  | ks_step "es"
  | ks_step "cmp"
  | (with_reducible refine TRU_bool ?_)
  | ks_step "tj"
  | ks_step "at_"
  | ((with_reducible refine GETS_t ?_); refine ⟨_, rfl, ?_⟩)
  | (refine And.intro (show List.length _ ≤ sizeLine from by simp [sizeLine]) ?_)
  | ((with_reducible refine ⟨_, rfl, rfl, ?_⟩); (try simp only [namesOf_nil, namesOf_name, List.reverse_cons, List.reverse_nil, List.nil_append, List.cons_append, List.zip_cons_cons, List.zip_nil_left, List.zip_nil_right, Ren.sets_cons, Ren.sets_nil]))
  | (with_reducible refine EX_nil ?_)
  | (with_reducible refine fin_next (by assumption) ?_)
  | (with_reducible refine AUG_add ?_)
  | (with_reducible refine C_abs ?_)
  | (with_reducible refine C_max ?_))
local macro_rules | `(tactic| ks_step "if") => `(tactic| first | ((with_reducible refine ite_tt ?hc ?_); (case hc => first | rfl | decide +kernel)) | ((with_reducible refine ite_ff ?hc ?_); (case hc => first | rfl | decide +kernel)))

-- an attribute read, a method found, an attribute set
local macro_rules | `(tactic| ks_step "at") => `(tactic| ((with_reducible refine (?_ : Exists _)); refine ⟨_, _, _, rfl, by assumption, by assumption, _, rfl, by first | rfl | assumption, ?_⟩))
local macro_rules | `(tactic| ks_step "me") => `(tactic| ((with_reducible refine (?_ : Exists _)); refine ⟨_, _, _, rfl, by assumption, by assumption, rfl, ?_⟩))
local macro_rules | `(tactic| ks_step "se") => `(tactic| refine ⟨_, _, _, rfl, by first | exact upd_self | assumption, by first | exact upd_self | assumption, _, rfl, by simp, ?_⟩)
local macro_rules | `(tactic| ks_step "r") => `(tactic| repeat (first | ks_step "s" | ks_step "if" | ks_step "at" | ks_step "me"))

/-! C1 -/
section

variable {w : World} {b : Heap} {lev : Nat} {sc : Scope} {ρ : Ren} {st : St}
theorem half_ok (G : Gd w b) {p q : Pt} {Q : AV → St → Prop} (h : Q (pav (half p q)) st) : CodeOk w b 1 (.ref 222) [pav p, pav q] st Q := by
  ks_step "fill"
  refine' CODE_def G (["one", "other"] : List Str) ?ho ?hcd ?hb ?hl ?_ ?hn ?hk ?hco ?hgen
  ks_step "def"
  repeat ks_step "s"
  exact h
theorem halves_ok (G : Gd w b) {q : Quad} {Q : AV → St → Prop} (h : Q (.tup [q.ahead.av, q.behind.av]) st) : CodeOk w b 2 (.ref 229) [q.av] st Q := by
  ks_step "fill"
  refine' CODE_def G (["points"] : List Str) ?ho ?hcd ?hb ?hl ?_ ?hn ?hk ?hco ?hgen
  ks_step "def"
  repeat first | ks_step "s" | refine CodeOk.at (half_ok (by assumption) ?_)
  exact h
end

/-! C2 -/
section

variable {w : World} {b : Heap} {lev : Nat} {sc : Scope} {ρ : Ren} {st : St}
theorem absI_le {x B : Int} (h1 : -B ≤ x) (h2 : x ≤ B) : absI x ≤ B ∧ 0 ≤ absI x := by unfold absI; split <;> omega
theorem near_lt {a b d : Int} (ha : a.natAbs ≤ 2 ^ 40) (hb : b.natAbs ≤ 2 ^ 40) (hd : d.natAbs ≤ 2 ^ 40) : absI (3 * b - 2 * a - d) ≤ 2 ^ 50 ∧ 0 ≤ absI (3 * b - 2 * a - d) := absI_le (by omega) (by omega)
theorem pow_lt {a b c d : Int} (ha : a.natAbs ≤ 2 ^ 40) (hb : b.natAbs ≤ 2 ^ 40) (hc : c.natAbs ≤ 2 ^ 40) (hd : d.natAbs ≤ 2 ^ 40) : (maxI (absI (3 * b - 2 * a - d)) (absI (3 * c - 2 * d - a))).natAbs < 2 ^ 64 := by
  have h1 := near_lt ha hb hd
  have h2 := near_lt hd hc ha
  unfold maxI; split <;> omega
theorem flat_ok (G : Gd w b) {q : Quad} {fl : Int} (hq : q.Small) (hf : fl.natAbs ≤ 2 ^ 40) {Q : AV → St → Prop} (h : Q (.bool (q.flat fl)) st) : CodeOk w b 1 (.ref 236) [q.av, .int fl] st Q := by
  ks_step "fill"
  refine' CODE_def G (["points", "flatness"] : List Str) ?ho ?hcd ?hb ?hl ?_ ?hn ?hk ?hco ?hgen
  ks_step "def"
  repeat ks_step "s"
  refine ES_For (.tup [.int 0, .int 1]) [.int 0, .int 1] (fun i ρ' st' => st' = st ∧ ρ' "a" = some (pav q.a) ∧ ρ' "b" = some (pav q.b) ∧ ρ' "c" = some (pav q.c) ∧ ρ' "d" = some (pav q.d) ∧ ρ' "flatness" = some (.int fl) ∧
    ρ' "far" = some (.int (match i with | 0 => 0 | 1 => far1 q.a.1 q.b.1 q.c.1 q.d.1 | _ => q.far))) ?_ (hg := letGo_name)
  repeat ks_step "s"
  refine ⟨rfl, fun i ρ' st' h => .tup _, ⟨rfl, rfl, rfl, rfl, rfl, rfl, rfl⟩, ?_, ?_⟩
  · rintro i y ρ' st' hy ⟨rfl, ha, hb, hc, hd, hf', hfar⟩
    refine ⟨_, asg_name, ?_⟩
    intro Qn hQn
    have p1 := pow_lt hq.a.1 hq.b.1 hq.c.1 hq.d.1
    have p2 := pow_lt hq.a.2 hq.b.2 hq.c.2 hq.d.2
    rcases i with _ | _ | i
    · cases hy
      repeat ks_step "s"
      exact ⟨rfl, ha, hb, hc, hd, hf', congrArg (fun z => some (AV.int z)) (Int.zero_add _)⟩
    · cases hy
      repeat ks_step "s"
      exact ⟨rfl, ha, hb, hc, hd, hf', rfl⟩
    · simp at hy
  · rintro ρ' st' ⟨rfl, ha, hb, hc, hd, hf', hfar⟩
    have p3 : fl.natAbs < 2 ^ 64 := by omega
    repeat ks_step "s"
    exact h
end

/-! C3 -/
section

variable {w : World} {b : Heap} {lev : Nat} {sc : Scope} {ρ : Ren} {st : St}
@[reducible] noncomputable def stkAv (p : Quad × Nat) : AV := .tup [p.1.av, .int (10 - (p.2 : Int))]
noncomputable def meas : List (Quad × Nat) → Nat
  | [] => 0
  | p :: r => (2 ^ (p.2 + 1) - 1) + meas r
noncomputable def out (fl : Int) : List (Quad × Nat) → List Pt
  | [] => []
  | p :: r => ends p.2 p.1 fl ++ out fl r
theorem meas_len : ∀ s : List (Quad × Nat), s.length ≤ meas s
  | [] => Nat.le_refl _
  | p :: r => by
    have := meas_len r
    have h2 : 2 ^ (p.2 + 1) ≥ 2 := by rw [Nat.pow_succ]; have := Nat.one_le_two_pow (n := p.2); omega
    simp only [List.length_cons, meas]; omega
theorem half_small {p q : Pt} (hp : Small p) (hq : Small q) : Small (half p q) := by
  have e : ∀ x : Int, x.fdiv 2 = x / 2 := fun x => Int.fdiv_eq_ediv_of_nonneg _ (by decide)
  unfold Small half at *
  dsimp only
  rw [e, e]
  omega
theorem Quad.Small.ahead {q : Quad} (h : q.Small) : q.ahead.Small := ⟨h.a, half_small h.a h.b, half_small (half_small h.a h.b) (half_small h.b h.c), half_small (half_small (half_small h.a h.b) (half_small h.b h.c)) (half_small (half_small h.b h.c) (half_small h.c h.d))⟩
theorem Quad.Small.behind {q : Quad} (h : q.Small) : q.behind.Small := ⟨half_small (half_small (half_small h.a h.b) (half_small h.b h.c)) (half_small (half_small h.b h.c) (half_small h.c h.d)), half_small (half_small h.b h.c) (half_small h.c h.d), half_small h.c h.d, h.d⟩
theorem stk_dats (s : List (Quad × Nat)) : AV.dats 8 (s.map stkAv) = true := dats_map fun _ _ => rfl

theorem ends_ok (G : Gd w b) {q : Quad} {fl : Int} (hq : q.Small) (hf : fl.natAbs ≤ 2 ^ 40) {Q : AV → St → Prop}
    (h : ∀ A st', Ext st st' → st A = none → st' A = some (.list ((ends 10 q fl).map pav)) → Q (.obj A) st') : CodeOk w b 3 (.ref 243) [q.av, .int fl] st Q := by
  ks_step "fill"
  refine' CODE_def G (["points", "flatness"] : List Str) ?ho ?hcd ?hb ?hl ?_ ?hn ?hk ?hco ?hgen
  ks_step "def"
  repeat ks_step "s"
  intro A₀ hA
  repeat ks_step "s"
  intro B₀ hB
  repeat ks_step "s"
  have hAB₀ : A₀ ≠ B₀ := fun e => by subst e; rw [upd_self] at hB; cases hB
  have nB₀ : st B₀ = none := by rw [upd_ne (Ne.symm hAB₀)] at hB; exact hB
  refine ES_While (fun n ρ' st' => ∃ fd stk A B, ρ' "found" = some (.obj A) ∧ ρ' "waiting" = some (.obj B) ∧ ρ' "flatness" = some (.int fl) ∧ st A = none ∧ st B = none ∧ A ≠ B ∧ st' A = some (.list (fd.map pav)) ∧ st' B = some (.list (stk.reverse.map stkAv)) ∧ Ext st st' ∧
    (∀ p ∈ stk, p.1.Small ∧ p.2 ≤ 10) ∧ n = meas stk ∧ fd.length + n ≤ 2047 ∧ fd ++ out fl stk = ends 10 q fl) 2047
    ⟨[], [(q, 10)], A₀, B₀, rfl, rfl, rfl, hA, nB₀, hAB₀, upd_old hB upd_self, upd_self, (Ext.new hA).trans (Ext.new hB), fun p hp => ?_, rfl, by decide, by simp [out]⟩ ?_
  · rw [List.mem_singleton] at hp; subst hp; exact ⟨hq, Nat.le_refl _⟩
  · rintro n ρ' st' ⟨fd, stk, A, B, hρ1, hρ2, hρ3, nA, nB, hAB, eA, eB, hx, good, rfl, hn, hout⟩
    repeat ks_step "s"
    refine ⟨_, _, rfl, eB, stk_dats _, fun d hd => ?_⟩
    have eA' := upd_old (x := .list []) hd eA
    have eB' := upd_old (x := .list []) hd eB
    have hx' := hx.trans (Ext.new (o := .list []) hd)
    generalize upd st' d (.list []) = st₁ at *
    clear hd eA eB hx
    cases stk with
    | nil =>
      refine ite_ff rfl ?_
      repeat ks_step "s"
      refine h A st₁ hx' nA ?_
      rw [← hout, out, List.append_nil]; exact eA'
    | cons p stk =>
      obtain ⟨q₁, k⟩ := p
      obtain ⟨gq, gk⟩ := good _ (.head _)
      have hlen := meas_len stk
      have hp2 : 2 ^ (k + 1) ≥ 2 := by rw [Nat.pow_succ]; have := Nat.one_le_two_pow (n := k); omega
      simp only [meas] at hn
      refine ite_tt (by simp) ?_
      intro Qn hQn
      repeat ks_step "s"
      refine ⟨B, (stk.reverse.map stkAv), stkAv (q₁, k), rfl, by rw [eB']; simp, by simp [sizeLine]; omega, ?_⟩
      have hBA : B ≠ A := Ne.symm hAB
      have eA₂ := upd_oth (x := .list (stk.reverse.map stkAv)) hAB eA'
      have eB₂ : upd st₁ B (.list (stk.reverse.map stkAv)) B = _ := upd_self
      have hx₂ := hx'.mut (o := .list (stk.reverse.map stkAv)) nB
      generalize upd st₁ B (.list (stk.reverse.map stkAv)) = st₂ at *
      repeat ks_step "s"
      have fin : ∀ fd', fd' = fd ++ [q₁.d] → ends k q₁ fl = [q₁.d] → fd' ++ out fl stk = ends 10 q fl := by
        rintro _ rfl e
        rw [← hout]; simp [out, e]
      refine ite_bb (fun c => ite_tt rfl ?_) fun c => ?_
      · have hk : k = 0 := by have : (10 : Int) - k = 10 := by simpa [AV.beq, AV.py, PyData.eqv] using c
                              omega
        subst hk
        repeat ks_step "s"
        refine ⟨_, _, rfl, eA₂, ?_⟩
        repeat ks_step "s"
        refine ⟨_, eA₂, by simp [sizeLine]; omega, ?_⟩
        repeat ks_step "s"
        exact ⟨meas stk, by simp only [meas]; omega, fd ++ [q₁.d], stk, A, B, hρ1, hρ2, hρ3, nA, nB, hAB, by rw [upd_self]; simp, upd_oth hBA eB₂, hx₂.mut nA, fun p hp => good p (.tail _ hp), rfl, by simp; omega, fin _ rfl (by simp [ends])⟩
      · obtain ⟨k, rfl⟩ : ∃ k', k = k' + 1 := by
          cases k with
          | zero => simp [AV.beq, AV.py, PyData.eqv] at c
          | succ k => exact ⟨k, rfl⟩
        repeat ks_step "s"
        refine TJ_value ?_
        repeat ks_step "s"
        refine CodeOk.at (flat_ok (by assumption) gq hf ?_)
        repeat ks_step "s"
        refine ite_bb (fun c2 => ite_tt rfl ?_) fun c2 => ?_
        · repeat ks_step "s"
          refine ⟨_, _, rfl, eA₂, ?_⟩
          repeat ks_step "s"
          refine ⟨_, eA₂, by simp [sizeLine]; omega, ?_⟩
          repeat ks_step "s"
          exact ⟨meas stk, by simp only [meas]; omega, fd ++ [q₁.d], stk, A, B, hρ1, hρ2, hρ3, nA, nB, hAB, by rw [upd_self]; simp, upd_oth hBA eB₂, hx₂.mut nA, fun p hp => good p (.tail _ hp), rfl, by simp; omega, fin _ rfl (by
            have c2 : q₁.flat fl = true := c2
            simp [ends, c2])⟩
        · have c2 : q₁.flat fl = false := c2
          have hp3 : 2 ^ (k + 1 + 1) = 2 ^ (k + 1) + 2 ^ (k + 1) := by rw [Nat.pow_succ]; omega
          have hp4 : 2 ^ (k + 1) ≥ 2 := by rw [Nat.pow_succ]; have := Nat.one_le_two_pow (n := k); omega
          rw [hp3] at hn
          repeat ks_step "s"
          refine ite_ff rfl ?_
          repeat ks_step "s"
          refine CodeOk.at (halves_ok (by assumption) ?_)
          repeat ks_step "s"
          refine ⟨_, _, rfl, eB₂, ?_⟩
          repeat ks_step "s"
          refine ⟨_, eB₂, by simp [sizeLine]; omega, ?_⟩
          have eA₃ := upd_oth (x := .list ((stk.reverse.map stkAv) ++ [stkAv (q₁.behind, k)])) hAB eA₂
          have eB₃ : upd st₂ B (.list ((stk.reverse.map stkAv) ++ [stkAv (q₁.behind, k)])) B = _ := upd_self
          have hx₃ := hx₂.mut (o := .list ((stk.reverse.map stkAv) ++ [stkAv (q₁.behind, k)])) nB
          have e10 : (10 : Int) - ((k + 1 : Nat) : Int) + 1 = 10 - (k : Int) := by omega
          rw [e10]
          generalize upd st₂ B (.list ((stk.reverse.map stkAv) ++ [stkAv (q₁.behind, k)])) = st₃ at *
          repeat ks_step "s"
          refine ⟨_, _, rfl, eB₃, ?_⟩
          repeat ks_step "s"
          refine ⟨_, eB₃, by simp [sizeLine]; omega, ?_⟩
          repeat ks_step "s"
          refine ⟨meas ((q₁.ahead, k) :: (q₁.behind, k) :: stk), by simp only [meas]; omega, fd, (q₁.ahead, k) :: (q₁.behind, k) :: stk, A, B, hρ1, hρ2, hρ3, nA, nB, hAB, upd_oth hAB eA₃, ?_, hx₃.mut nB, ?_, rfl, by simp only [meas]; omega, ?_⟩
          · rw [upd_self]; simp [stkAv]; omega
          · intro p hp
            have gk' : k + 1 ≤ 10 := gk
            rcases List.mem_cons.mp hp with rfl | hp
            · exact ⟨gq.ahead, by show k ≤ 10; omega⟩
            · rcases List.mem_cons.mp hp with rfl | hp
              · exact ⟨gq.behind, by show k ≤ 10; omega⟩
              · exact good p (.tail _ hp)
          · rw [← hout]; simp [out, ends, c2]
end

/-! C4 -/
section

variable {w : World} {b : Heap} {lev : Nat} {sc : Scope} {ρ : Ren} {st : St}
theorem items_rng {a c d : Int} {n : Nat} {xs : List AV} (hs : Builtin.Range.small a c d = true) (hn : Builtin.Range.rangeSize a c d = (n : Int)) (hx : xs = (List.range n).map fun i : Nat => AV.int (a + (i : Int) * d)) : ItemsOf (.rng a c d) st xs := by
  subst hx; exact .rng hs hn

theorem points_ok (G : Gd w b) {r : Row} {Q : AV → St → Prop} (h : ∀ A, st A = none → Q (.obj A) (upd st A (.list (r.pts.map pav)))) : CodeOk w b 1 (.ref 208) [r.av] st Q := by
  ks_step "fill"
  refine' CODE_def G (["row"] : List Str) ?ho ?hcd ?hb ?hl ?_ ?hn ?hk ?hco ?hgen
  ks_step "def"
  repeat ks_step "s"
  cases r with
  | m p =>
    refine EV_Comp (.rng 1 3 2) ([.int 1] : List AV) (fun i ys st' => st' = st ∧ ys = (([p] : List Pt).take i).map pav) ?_
    ks_step "s"
    repeat ks_step "s"
    refine C_len_tup (by simp [sizeLine]) ?_
    repeat ks_step "s"
    refine C_range3 (by decide) (by decide) ⟨rfl, fun _ _ _ _ => items_rng (n := 1) (by decide) (by decide) rfl, ⟨rfl, rfl⟩, by simp [sizeLine], ?_, ?_⟩
    · rintro i y ys st' hy ⟨rfl, rfl⟩
      rcases i with _ | i
      · cases hy
        refine CT_nil (ite_tt rfl ?_)
        repeat ks_step "s"
        exact ⟨rfl, rfl⟩
      · simp at hy
    · rintro ys st' ⟨rfl, rfl⟩
      exact h
  | l p =>
    refine EV_Comp (.rng 1 3 2) ([.int 1] : List AV) (fun i ys st' => st' = st ∧ ys = (([p] : List Pt).take i).map pav) ?_
    ks_step "s"
    repeat ks_step "s"
    refine C_len_tup (by simp [sizeLine]) ?_
    repeat ks_step "s"
    refine C_range3 (by decide) (by decide) ⟨rfl, fun _ _ _ _ => items_rng (n := 1) (by decide) (by decide) rfl, ⟨rfl, rfl⟩, by simp [sizeLine], ?_, ?_⟩
    · rintro i y ys st' hy ⟨rfl, rfl⟩
      rcases i with _ | i
      · cases hy
        refine CT_nil (ite_tt rfl ?_)
        repeat ks_step "s"
        exact ⟨rfl, rfl⟩
      · simp at hy
    · rintro ys st' ⟨rfl, rfl⟩
      exact h
  | c p q r =>
    refine EV_Comp (.rng 1 7 2) ([.int 1, .int 3, .int 5] : List AV) (fun i ys st' => st' = st ∧ ys = (([p, q, r] : List Pt).take i).map pav) ?_
    ks_step "s"
    repeat ks_step "s"
    refine C_len_tup (by simp [sizeLine]) ?_
    repeat ks_step "s"
    refine C_range3 (by decide) (by decide) ⟨rfl, fun _ _ _ _ => items_rng (n := 3) (by decide) (by decide) rfl, ⟨rfl, rfl⟩, by simp [sizeLine], ?_, ?_⟩
    · rintro i y ys st' hy ⟨rfl, rfl⟩
      rcases i with _ | i
      · cases hy
        refine CT_nil (ite_tt rfl ?_)
        repeat ks_step "s"
        exact ⟨rfl, rfl⟩
      rcases i with _ | i
      · cases hy
        refine CT_nil (ite_tt rfl ?_)
        repeat ks_step "s"
        exact ⟨rfl, rfl⟩
      rcases i with _ | i
      · cases hy
        refine CT_nil (ite_tt rfl ?_)
        repeat ks_step "s"
        exact ⟨rfl, rfl⟩
      · simp at hy
    · rintro ys st' ⟨rfl, rfl⟩
      exact h
  | z =>
    refine EV_Comp (.rng 1 1 2) ([] : List AV) (fun i ys st' => st' = st ∧ ys = (([] : List Pt).take i).map pav) ?_
    ks_step "s"
    repeat ks_step "s"
    refine C_len_tup (by simp [sizeLine]) ?_
    repeat ks_step "s"
    refine C_range3 (by decide) (by decide) ⟨rfl, fun _ _ _ _ => items_rng (n := 0) (by decide) (by decide) rfl, ⟨rfl, rfl⟩, by simp [sizeLine], ?_, ?_⟩
    · rintro i y ys st' hy ⟨rfl, rfl⟩
      simp at hy
    · rintro ys st' ⟨rfl, rfl⟩
      exact h

theorem pairs_ok (G : Gd w b) {r : Row} {Q : AV → St → Prop} (h : ∀ A, st A = none → Q (.obj A) (upd st A (.list (r.pts.map pav)))) : CodeOk w b 1 (.ref 281) [r.av] st Q := by
  ks_step "fill"
  refine' CODE_def G (["row"] : List Str) ?ho ?hcd ?hb ?hl ?_ ?hn ?hk ?hco ?hgen
  ks_step "def"
  repeat ks_step "s"
  cases r with
  | m p =>
    refine EV_Comp (.rng 1 3 2) ([.int 1] : List AV) (fun i ys st' => st' = st ∧ ys = (([p] : List Pt).take i).map pav) ?_
    ks_step "s"
    repeat ks_step "s"
    refine C_len_tup (by simp [sizeLine]) ?_
    repeat ks_step "s"
    refine C_range3 (by decide) (by decide) ⟨rfl, fun _ _ _ _ => items_rng (n := 1) (by decide) (by decide) rfl, ⟨rfl, rfl⟩, by simp [sizeLine], ?_, ?_⟩
    · rintro i y ys st' hy ⟨rfl, rfl⟩
      rcases i with _ | i
      · cases hy
        refine CT_nil (ite_tt rfl ?_)
        repeat ks_step "s"
        exact ⟨rfl, rfl⟩
      · simp at hy
    · rintro ys st' ⟨rfl, rfl⟩
      exact h
  | l p =>
    refine EV_Comp (.rng 1 3 2) ([.int 1] : List AV) (fun i ys st' => st' = st ∧ ys = (([p] : List Pt).take i).map pav) ?_
    ks_step "s"
    repeat ks_step "s"
    refine C_len_tup (by simp [sizeLine]) ?_
    repeat ks_step "s"
    refine C_range3 (by decide) (by decide) ⟨rfl, fun _ _ _ _ => items_rng (n := 1) (by decide) (by decide) rfl, ⟨rfl, rfl⟩, by simp [sizeLine], ?_, ?_⟩
    · rintro i y ys st' hy ⟨rfl, rfl⟩
      rcases i with _ | i
      · cases hy
        refine CT_nil (ite_tt rfl ?_)
        repeat ks_step "s"
        exact ⟨rfl, rfl⟩
      · simp at hy
    · rintro ys st' ⟨rfl, rfl⟩
      exact h
  | c p q r =>
    refine EV_Comp (.rng 1 7 2) ([.int 1, .int 3, .int 5] : List AV) (fun i ys st' => st' = st ∧ ys = (([p, q, r] : List Pt).take i).map pav) ?_
    ks_step "s"
    repeat ks_step "s"
    refine C_len_tup (by simp [sizeLine]) ?_
    repeat ks_step "s"
    refine C_range3 (by decide) (by decide) ⟨rfl, fun _ _ _ _ => items_rng (n := 3) (by decide) (by decide) rfl, ⟨rfl, rfl⟩, by simp [sizeLine], ?_, ?_⟩
    · rintro i y ys st' hy ⟨rfl, rfl⟩
      rcases i with _ | i
      · cases hy
        refine CT_nil (ite_tt rfl ?_)
        repeat ks_step "s"
        exact ⟨rfl, rfl⟩
      rcases i with _ | i
      · cases hy
        refine CT_nil (ite_tt rfl ?_)
        repeat ks_step "s"
        exact ⟨rfl, rfl⟩
      rcases i with _ | i
      · cases hy
        refine CT_nil (ite_tt rfl ?_)
        repeat ks_step "s"
        exact ⟨rfl, rfl⟩
      · simp at hy
    · rintro ys st' ⟨rfl, rfl⟩
      exact h
  | z =>
    refine EV_Comp (.rng 1 1 2) ([] : List AV) (fun i ys st' => st' = st ∧ ys = (([] : List Pt).take i).map pav) ?_
    ks_step "s"
    repeat ks_step "s"
    refine C_len_tup (by simp [sizeLine]) ?_
    repeat ks_step "s"
    refine C_range3 (by decide) (by decide) ⟨rfl, fun _ _ _ _ => items_rng (n := 0) (by decide) (by decide) rfl, ⟨rfl, rfl⟩, by simp [sizeLine], ?_, ?_⟩
    · rintro i y ys st' hy ⟨rfl, rfl⟩
      simp at hy
    · rintro ys st' ⟨rfl, rfl⟩
      exact h
end

/-! C5 -/
section

variable {w : World} {b : Heap} {lev : Nat} {sc : Scope} {ρ : Ren} {st : St}
theorem more_ok (G : Gd w b) {last : Option Kd} {a : Addr} {rs : List Row} {Q : AV → St → Prop} (ea : st a = some (.list (rs.map Row.av))) (hok : okFrom last rs = true) (h : Q (.int rs.length) st) : CodeOk w b 1 (.ref 203) [kdAv last, .obj a] st Q := by
  ks_step "fill"
  refine' CODE_def G (["last", "rows"] : List Str) ?ho ?hcd ?hb ?hl ?_ ?hn ?hk ?hco ?hgen
  ks_step "def"
  repeat ks_step "s"
  refine ES_For (.obj a) (rs.map Row.av) (fun i ρ' st' => st' = st ∧ ∃ last, ρ' "last" = some (kdAv last) ∧ ρ' "many" = some (.int i) ∧ okFrom last (rs.drop i) = true) ?_ (hg := letGo_name)
  repeat ks_step "s"
  refine ⟨rfl, ?_, ⟨rfl, last, rfl, rfl, hok⟩, ?_, ?_⟩
  · rintro i ρ' st' ⟨rfl, -⟩
    exact .list ea
  · rintro i y ρ' st' hy ⟨rfl, last, h1, h2, hok⟩
    refine ⟨_, asg_name, ?_⟩
    intro Qn hQn
    rw [List.getElem?_map] at hy
    cases hr : rs[i]? with
    | none => rw [hr] at hy; cases hy
    | some r =>
      rw [hr] at hy; cases hy
      obtain ⟨hlt, hr'⟩ := List.getElem?_eq_some_iff.mp hr
      rw [List.drop_eq_getElem_cons hlt, hr'] at hok
      simp only [okFrom, Bool.and_eq_true] at hok
      obtain ⟨hs, hok⟩ := hok
      have fin : ∀ x : Int, x = 1 → some (AV.int ((i : Int) + x)) = some (AV.int ((i + 1 : Nat) : Int)) := by rintro x rfl; simp
      rcases last with _ | _ | _ | _ | _ <;> rcases r with ⟨p⟩ | ⟨p⟩ | ⟨p, q, r⟩ | _ <;> first
        | (simp [okStep] at hs; done)
        | (repeat (first | ks_step "s" | ks_step "if")
           exact ⟨rfl, _, rfl, fin _ rfl, hok⟩)


  · rintro ρ' st' ⟨rfl, last, h1, h2, -⟩
    rw [List.length_map] at h2
    repeat ks_step "s"
    exact h
end

/-! C6 -/
section

variable {w : World} {b : Heap} {lev : Nat} {sc : Scope} {ρ : Ren} {st : St}
theorem init_2 (G : Gd w b) {x dx : Addr} {Q : AV → St → Prop} (ex : st x = some (.inst pC dx)) (ed : st dx = some (.dict []))
    (h : ∀ k st', st k = none → st' x = some (.inst pC dx) → st' dx = some (.dict (pFs k .none .none)) → st' k = some (.list []) → Ch dx st st' → Q .none st') : CodeOk w b 1 (.ref 69) [.obj x, .int 1500] st Q := by
  ks_step "fill"
  refine' CODE_def G (["self", "most"] : List Str) ?ho ?hcd ?hb ?hl ?_ ?hn ?hk ?hco ?hgen
  ks_step "def"
  have xd : x ≠ dx := fun q => by subst q; rw [ex] at ed; cases ed
  ks_step "r"
  refine ⟨_, _, _, rfl, ex, ed, [("most", .int 1500)], rfl, by simp, ?_⟩
  replace ex := upd_oth (x := .dict [("most", .int 1500)]) xd ex
  have c1 := Ch.upd (st := st) dx (.dict [("most", .int 1500)])
  replace ed : upd st dx (.dict [("most", .int 1500)]) dx = _ := upd_self
  generalize upd st dx (.dict [("most", .int 1500)]) = s1 at *
  ks_step "r"
  intro k hk
  have hks : st k = none := by
    cases e : st k with
    | none => rfl
    | some o =>
      by_cases hkd : k = dx
      · subst hkd; rw [ed] at hk; cases hk
      · rw [c1 k o hkd e] at hk; cases hk
  have kd : k ≠ dx := fun q => by subst q; rw [ed] at hk; cases hk
  replace ex := upd_old (x := .list []) hk ex
  replace ed := upd_old (x := .list []) hk ed
  have ek : upd s1 k (.list []) k = some (.list []) := upd_self
  replace c1 := c1.trans ((Ext.new (o := .list []) hk).ch dx)
  generalize upd s1 k (.list []) = s2 at *
  clear hk
  ks_step "r"
  refine ⟨_, _, _, rfl, ex, ed, [("most", .int 1500), ("kept", .obj k)], rfl, by simp, ?_⟩
  ks_step "r"
  refine ⟨_, _, _, rfl, upd_oth xd ex, upd_self, [("most", .int 1500), ("kept", .obj k), ("begun", .none)], rfl, by simp, ?_⟩
  ks_step "r"
  refine ⟨_, _, _, rfl, upd_oth xd (upd_oth xd ex), upd_self, pFs k .none .none, rfl, by simp, ?_⟩
  ks_step "r"
  refine h k _ hks ?_ upd_self ?_ ?_
  · exact upd_oth xd (upd_oth xd (upd_oth xd ex))
  · exact upd_oth kd (upd_oth kd (upd_oth kd ek))
  · exact c1.trans ((Ch.upd _ _).trans ((Ch.upd _ _).trans (Ch.upd _ _)))

theorem init_1 (G : Gd w b) {x dx : Addr} {Q : AV → St → Prop} (ex : st x = some (.inst pC dx)) (ed : st dx = some (.dict []))
    (h : ∀ k st', st k = none → st' x = some (.inst pC dx) → st' dx = some (.dict (pFs k .none .none)) → st' k = some (.list []) → Ch dx st st' → Q .none st') : CodeOk w b 1 (.ref 69) [.obj x] st Q := by
  ks_step "fill"
  refine' CODE_defD G (ds := [Value.int 1500 243]) (["self", "most"] : List Str) ([.int 1500] : List AV) ?ho ?hcd ?hb ?hds ?hl ?_ ?hn ?hk ?hco ?hgen
  ks_step "def"
  have xd : x ≠ dx := fun q => by subst q; rw [ex] at ed; cases ed
  ks_step "r"
  refine ⟨_, _, _, rfl, ex, ed, [("most", .int 1500)], rfl, by simp, ?_⟩
  replace ex := upd_oth (x := .dict [("most", .int 1500)]) xd ex
  have c1 := Ch.upd (st := st) dx (.dict [("most", .int 1500)])
  replace ed : upd st dx (.dict [("most", .int 1500)]) dx = _ := upd_self
  generalize upd st dx (.dict [("most", .int 1500)]) = s1 at *
  ks_step "r"
  intro k hk
  have hks : st k = none := by
    cases e : st k with
    | none => rfl
    | some o =>
      by_cases hkd : k = dx
      · subst hkd; rw [ed] at hk; cases hk
      · rw [c1 k o hkd e] at hk; cases hk
  have kd : k ≠ dx := fun q => by subst q; rw [ed] at hk; cases hk
  replace ex := upd_old (x := .list []) hk ex
  replace ed := upd_old (x := .list []) hk ed
  have ek : upd s1 k (.list []) k = some (.list []) := upd_self
  replace c1 := c1.trans ((Ext.new (o := .list []) hk).ch dx)
  generalize upd s1 k (.list []) = s2 at *
  clear hk
  ks_step "r"
  refine ⟨_, _, _, rfl, ex, ed, [("most", .int 1500), ("kept", .obj k)], rfl, by simp, ?_⟩
  ks_step "r"
  refine ⟨_, _, _, rfl, upd_oth xd ex, upd_self, [("most", .int 1500), ("kept", .obj k), ("begun", .none)], rfl, by simp, ?_⟩
  ks_step "r"
  refine ⟨_, _, _, rfl, upd_oth xd (upd_oth xd ex), upd_self, pFs k .none .none, rfl, by simp, ?_⟩
  ks_step "r"
  refine h k _ hks ?_ upd_self ?_ ?_
  · exact upd_oth xd (upd_oth xd (upd_oth xd ex))
  · exact upd_oth kd (upd_oth kd (upd_oth kd ek))
  · exact c1.trans ((Ch.upd _ _).trans ((Ch.upd _ _).trans (Ch.upd _ _)))

theorem make_of (G : Gd w b) {args : List AV} {Q : AV → St → Prop} (h : ∀ x st', PathAt st st' x [] → Q (.obj x) st')
    (hi : ∀ st x dx (Q : AV → St → Prop), st x = some (.inst pC dx) → st dx = some (.dict []) → (∀ k st', st k = none → st' x = some (.inst pC dx) → st' dx = some (.dict (pFs k .none .none)) → st' k = some (.list []) → Ch dx st st' → Q .none st') → CodeOk w b 1 (.ref 69) (.obj x :: args) st Q) : CodeOk w b 3 (.ref 184) args st Q := by
  ks_step "fill"
  refine' C_make G ?h1 ?h2 ?h3 fun x dx nx nd hne => ?_
  case h1 => k_is
  case h2 => k_is
  case h3 => k_is
  refine hi _ x dx _ upd_self (by rw [upd_ne hne]; exact upd_self) fun k st' nk ex ed ek c => ⟨rfl, h x st' ⟨dx, k, .none, .none, nx, nd, ?_, ex, ed, ek, rfl, rfl, fun q => (q rfl).elim, fun q => (q rfl).elim, ?_⟩⟩
  · cases e : st k with
    | none => rfl
    | some o => rw [upd_ne (ne_of e nx), upd_ne (ne_of e nd), e] at nk; cases nk
  · intro a o e
    exact c a o (ne_of e nd) (upd_oth (ne_of e nx) (upd_oth (ne_of e nd) e))
theorem make_1 (G : Gd w b) {Q : AV → St → Prop} (h : ∀ x st', PathAt st st' x [] → Q (.obj x) st') : CodeOk w b 3 (.ref 184) [.int 1500] st Q :=
  make_of G h fun _ _ _ _ ex ed h => init_2 G ex ed h
theorem make_0 (G : Gd w b) {Q : AV → St → Prop} (h : ∀ x st', PathAt st st' x [] → Q (.obj x) st') : CodeOk w b 3 (.ref 184) [] st Q :=
  make_of G h fun _ _ _ _ ex ed h => init_1 G ex ed h
end

/-! C7 -/
section

variable {w : World} {b : Heap} {lev : Nat} {sc : Scope} {ρ : Ren} {st : St}
theorem rows_ok (G : Gd w b) {st₀ : St} {x : Addr} {rs : List Row} {Q : AV → St → Prop} (P : PathAt st₀ st x rs) (hz : rs.length ≤ sizeLine) (h : ∀ D, st D = none → Q (.obj D) (upd st D (.list (rs.map Row.av)))) : CodeOk w b 1 (.ref 76) [.obj x] st Q := by
  obtain ⟨dx, k, bg, pt, P⟩ := P
  have ex := P.ex
  have ed := P.ed
  have ek := P.ek
  ks_step "fill"
  refine' CODE_def G (["self"] : List Str) ?ho ?hcd ?hb ?hl ?_ ?hn ?hk ?hco ?hgen
  ks_step "def"
  ks_step "r"
  refine C_list ek (by rw [List.length_map]; exact hz) fun D hD => ?_
  ks_step "r"
  exact h D hD
theorem current_ok (G : Gd w b) {st₀ : St} {x : Addr} {rs : List Row} {Q : AV → St → Prop} (P : PathAt st₀ st x rs) (hn : rs ≠ []) (h : ∀ v, Q v st) : CodeOk w b 1 (.ref 90) [.obj x] st Q := by
  obtain ⟨dx, k, bg, pt, P⟩ := P
  have ex := P.ex
  have ed := P.ed
  have pp := P.pp
  have hv : ∀ v, pt ≠ .val v := by rintro v rfl; cases pp
  have hs := P.some hn
  ks_step "fill"
  refine' CODE_def G (["self"] : List Str) ?ho ?hcd ?hb ?hl ?_ ?hn ?hk ?hco ?hgen
  ks_step "def"
  ks_step "r"
  refine CMP_is_none hv ?_
  ks_step "r"
  refine ite_ff hs ?_
  ks_step "r"
  exact h _
theorem room_ok (G : Gd w b) {st₀ : St} {x a : Addr} {rs new : List Row} {Q : AV → St → Prop} (P : PathAt st₀ st x rs) (ea : st a = some (.list (new.map Row.av))) (hok : okFrom (lastKd rs) new = true) (hz : rs.length + new.length ≤ 1500) (h : ∀ st', Ext st st' → Q .none st') : CodeOk w b 2 (.ref 111) [.obj x, .obj a] st Q := by
  obtain ⟨dx, k, bg, pt, P⟩ := P
  have ex := P.ex
  have ed := P.ed
  have ek := P.ek
  ks_step "fill"
  refine' CODE_def G (["self", "rows"] : List Str) ?ho ?hcd ?hb ?hl ?_ ?hn ?hk ?hco ?hgen
  ks_step "def"
  ks_step "r"
  refine C_len_list ek (by rw [List.length_map]; simp [sizeLine]; omega) ?_
  ks_step "r"
  refine ⟨_, _, rfl, ek, rows_dat _, fun d hd => ?_⟩
  have hx := Ext.new (st := st) (o := .list []) hd
  have ex' := hx _ _ ex
  have ed' := hx _ _ ed
  have ek' := hx _ _ ek
  have ea' := hx _ _ ea
  generalize upd st d (.list []) = st₁ at *
  clear hd ex ed ek ea
  have fin : decide ((1500 : Int) < ((rs.map Row.av).length : Int) + (new.length : Int)) = false := by rw [List.length_map]; simp; omega
  rcases List.eq_nil_or_concat rs with rfl | ⟨ini, r, hr⟩
  · refine ite_ff rfl ?_
    ks_step "r"
    refine CodeOk.at (more_ok (last := none) (by assumption) ea' hok ?_)
    ks_step "r"
    refine ite_ff fin ?_
    ks_step "r"
    exact h _ hx
  · rw [List.concat_eq_append] at hr
    subst hr
    rw [lastKd_snoc] at hok
    refine ite_tt (by simp) ?_
    ks_step "r"
    refine GETS_last (xs := ini.map Row.av) (x := r.av) (by rw [ek']; simp) ?_
    ks_step "r"
    refine GETS_row0 ?_
    ks_step "r"
    refine CodeOk.at (more_ok (last := some r.kd) (by assumption) ea' hok ?_)
    ks_step "r"
    refine ite_ff fin ?_
    ks_step "r"
    exact h _ hx
end

/-! C8 -/
section

variable {w : World} {b : Heap} {lev : Nat} {sc : Scope} {ρ : Ren} {st : St}
theorem PathIn.fin {st₀ st : St} {x dx k : Addr} {bg pt bg' pt' : AV} {rs : List Row} {d1 : AObj} (P : PathIn st₀ st x dx k bg pt rs) {r : Row} (hb : bg'.plain = true) (hp : pt'.plain = true) (hs : pt'.isNone = false) (hs' : bg'.isNone = false) : PathIn st₀ (upd (upd (upd st k (.list (rs.map Row.av ++ [r.av]))) dx d1) dx (.dict (pFs k bg' pt'))) x dx k bg' pt' (rs ++ [r]) :=
  ⟨P.nx, P.nd, P.nk, upd_oth P.xd (upd_oth P.xd (upd_oth P.xk P.ex)), upd_self, upd_oth P.kd (upd_oth P.kd (by rw [upd_self]; simp)), hb, hp, fun _ => hs, fun _ => hs', ((P.ext.mut P.nk).mut P.nd).mut P.nd⟩
theorem PathIn.fin1 {st₀ st : St} {x dx k : Addr} {bg pt bg' pt' : AV} {rs : List Row} (P : PathIn st₀ st x dx k bg pt rs) {r : Row} (hb : bg'.plain = true) (hp : pt'.plain = true) (hs : pt'.isNone = false) (hs' : bg'.isNone = false) : PathIn st₀ (upd (upd st k (.list (rs.map Row.av ++ [r.av]))) dx (.dict (pFs k bg' pt'))) x dx k bg' pt' (rs ++ [r]) :=
  ⟨P.nx, P.nd, P.nk, upd_oth P.xd (upd_oth P.xk P.ex), upd_self, upd_oth P.kd (by rw [upd_self]; simp), hb, hp, fun _ => hs, fun _ => hs', (P.ext.mut P.nk).mut P.nd⟩
theorem move_ok (G : Gd w b) {st₀ : St} {x : Addr} {rs : List Row} {p : Pt} {Q : AV → St → Prop} (P : PathAt st₀ st x rs) (hok : okStep (lastKd rs) (.m p) = true) (hz : rs.length + 1 ≤ 1500) (h : ∀ st', PathAt st₀ st' x (rs ++ [.m p]) → Q .none st') : CodeOk w b 3 (.ref 118) [.obj x, .int p.1, .int p.2] st Q := by
  obtain ⟨dx, k, bg, pt, P⟩ := P
  have ex := P.ex
  have ed := P.ed
  ks_step "fill"
  refine' CODE_def G (["self", "x", "y"] : List Str) ?ho ?hcd ?hb ?hl ?_ ?hn ?hk ?hco ?hgen
  ks_step "def"
  ks_step "r"
  intro a ha
  ks_step "r"
  refine CodeOk.at (room_ok (new := [.m p]) G ⟨dx, k, bg, pt, P.keep (Ext.new ha)⟩ upd_self (by simpa [okFrom] using hok) hz fun st₁ hx₁ => ?_)
  replace P := P.keep ((Ext.new ha).trans hx₁)
  clear hx₁ ha ex ed
  have ex := P.ex
  have ed := P.ed
  ks_step "r"
  refine ⟨_, _, rfl, P.ek, rows_dat _, fun d hd => ?_⟩
  replace P := P.keep (Ext.new (o := .list []) hd)
  generalize upd st₁ d (.list []) = st₂ at *
  clear ex ed hd
  have ex := P.ex
  have ed := P.ed
  have hc : (!(rs.map Row.av).isEmpty) = true → ∃ ini r, rs = ini ++ [r] ∧ r.kd ≠ .m := by
    intro hc
    rcases List.eq_nil_or_concat rs with rfl | ⟨ini, r, hr⟩
    · simp at hc
    · rw [List.concat_eq_append] at hr
      subst hr
      rw [lastKd_snoc] at hok
      exact ⟨ini, r, rfl, by cases r <;> simp_all [okStep, Row.kd]⟩
  refine ite_bb (fun c => ?_) fun c => ?_
  · obtain ⟨ini, r, hrs, hr⟩ := hc c
    ks_step "r"
    refine GETS_last (xs := ini.map Row.av) (x := r.av) (by rw [P.ek, hrs]; simp) ?_
    ks_step "r"
    refine GETS_row0 ?_
    ks_step "r"
    refine ite_ff (by rw [kd_m]; simp [hr]) ?_
    ks_step "if"
    ks_step "r"
    refine ⟨_, _, rfl, P.ek, ?_⟩
    ks_step "r"
    refine ⟨_, P.ek, by simp [sizeLine]; omega, ?_⟩
    ks_step "r"
    refine ⟨_, _, _, rfl, upd_oth P.xk P.ex, upd_oth P.kd.symm P.ed, pFs k (pav p) pt, rfl, by simp, ?_⟩
    ks_step "r"
    refine ⟨_, _, _, rfl, upd_oth P.xd (upd_oth P.xk P.ex), upd_self, pFs k (pav p) (pav p), rfl, by simp, ?_⟩
    ks_step "r"
    exact h _ ⟨_, _, _, _, P.fin (r := .m p) rfl rfl rfl rfl⟩
  · ks_step "if"
    ks_step "r"
    refine ⟨_, _, rfl, P.ek, ?_⟩
    ks_step "r"
    refine ⟨_, P.ek, by simp [sizeLine]; omega, ?_⟩
    ks_step "r"
    refine ⟨_, _, _, rfl, upd_oth P.xk P.ex, upd_oth P.kd.symm P.ed, pFs k (pav p) pt, rfl, by simp, ?_⟩
    ks_step "r"
    refine ⟨_, _, _, rfl, upd_oth P.xd (upd_oth P.xk P.ex), upd_self, pFs k (pav p) (pav p), rfl, by simp, ?_⟩
    ks_step "r"
    exact h _ ⟨_, _, _, _, P.fin (r := .m p) rfl rfl rfl rfl⟩

theorem go_on_ok (G : Gd w b) {st₀ : St} {x : Addr} {rs : List Row} {r : Row} {p : Pt} {Q : AV → St → Prop} (P : PathAt st₀ st x rs) (hne : rs ≠ []) (hnz : lastKd rs ≠ some .z) (hok : okStep (lastKd rs) r = true) (hz : rs.length + 1 ≤ 1500) (h : ∀ st', PathAt st₀ st' x (rs ++ [r]) → Q .none st') : CodeOk w b 3 (.ref 125) [.obj x, r.av, pav p] st Q := by
  obtain ⟨dx, k, bg, pt, P⟩ := P
  have ex := P.ex
  have ed := P.ed
  ks_step "fill"
  refine' CODE_def G (["self", "row", "point"] : List Str) ?ho ?hcd ?hb ?hl ?_ ?hn ?hk ?hco ?hgen
  ks_step "def"
  ks_step "r"
  refine CodeOk.at (current_ok G ⟨dx, k, bg, pt, P⟩ hne fun _ => ?_)
  ks_step "r"
  intro a ha
  ks_step "r"
  refine CodeOk.at (room_ok (new := [r]) G ⟨dx, k, bg, pt, P.keep (Ext.new ha)⟩ upd_self (by simpa [okFrom] using hok) hz fun st₁ hx₁ => ?_)
  replace P := P.keep ((Ext.new ha).trans hx₁)
  clear hx₁ ha ex ed
  have ex := P.ex
  have ed := P.ed
  obtain ⟨ini, r', hrs⟩ : ∃ ini r', rs = ini ++ [r'] := by
    rcases List.eq_nil_or_concat rs with rfl | ⟨ini, r, hr⟩
    · exact (hne rfl).elim
    · exact ⟨ini, r, by rw [List.concat_eq_append] at hr; exact hr⟩
  ks_step "r"
  refine GETS_last (xs := ini.map Row.av) (x := r'.av) (by rw [P.ek, hrs]; simp) ?_
  ks_step "r"
  refine GETS_row0 ?_
  ks_step "r"
  refine ite_ff (by rw [kd_z]; rw [hrs, lastKd_snoc] at hnz; simpa using hnz) ?_
  ks_step "r"
  refine ⟨_, _, rfl, P.ek, ?_⟩
  ks_step "r"
  refine ⟨_, P.ek, by simp [sizeLine]; omega, ?_⟩
  ks_step "r"
  refine ⟨_, _, _, rfl, upd_oth P.xk P.ex, upd_oth P.kd.symm P.ed, pFs k bg (pav p), rfl, by simp, ?_⟩
  ks_step "r"
  exact h _ ⟨_, _, _, _, P.fin1 P.pb rfl rfl (P.sb hne)⟩
theorem line_ok (G : Gd w b) {st₀ : St} {x : Addr} {rs : List Row} {p : Pt} {Q : AV → St → Prop} (P : PathAt st₀ st x rs) (hne : rs ≠ []) (hnz : lastKd rs ≠ some .z) (hok : okStep (lastKd rs) (.l p) = true) (hz : rs.length + 1 ≤ 1500) (h : ∀ st', PathAt st₀ st' x (rs ++ [.l p]) → Q .none st') : CodeOk w b 4 (.ref 132) [.obj x, .int p.1, .int p.2] st Q := by
  obtain ⟨dx, k, bg, pt, P⟩ := P
  have ex := P.ex
  have ed := P.ed
  ks_step "fill"
  refine' CODE_def G (["self", "x", "y"] : List Str) ?ho ?hcd ?hb ?hl ?_ ?hn ?hk ?hco ?hgen
  ks_step "def"
  ks_step "r"
  refine CodeOk.at (go_on_ok (r := .l p) (p := p) G ⟨dx, k, bg, pt, P⟩ hne hnz hok hz fun st' P' => ?_)
  ks_step "r"
  exact h _ P'
theorem curve_ok (G : Gd w b) {st₀ : St} {x : Addr} {rs : List Row} {p q r : Pt} {Q : AV → St → Prop} (P : PathAt st₀ st x rs) (hne : rs ≠ []) (hnz : lastKd rs ≠ some .z) (hok : okStep (lastKd rs) (.c p q r) = true) (hz : rs.length + 1 ≤ 1500) (h : ∀ st', PathAt st₀ st' x (rs ++ [.c p q r]) → Q .none st') : CodeOk w b 4 (.ref 139) [.obj x, .int p.1, .int p.2, .int q.1, .int q.2, .int r.1, .int r.2] st Q := by
  obtain ⟨dx, k, bg, pt, P⟩ := P
  have ex := P.ex
  have ed := P.ed
  ks_step "fill"
  refine' CODE_def G (["self", "x1", "y1", "x2", "y2", "x3", "y3"] : List Str) ?ho ?hcd ?hb ?hl ?_ ?hn ?hk ?hco ?hgen
  ks_step "def"
  ks_step "r"
  refine CodeOk.at (go_on_ok (r := .c p q r) (p := r) G ⟨dx, k, bg, pt, P⟩ hne hnz hok hz fun st' P' => ?_)
  ks_step "r"
  exact h _ P'
theorem close_ok (G : Gd w b) {st₀ : St} {x : Addr} {rs : List Row} {Q : AV → St → Prop} (P : PathAt st₀ st x rs) (hne : rs ≠ []) (hnz : lastKd rs ≠ some .z) (hok : okStep (lastKd rs) .z = true) (hz : rs.length + 1 ≤ 1500) (h : ∀ st', PathAt st₀ st' x (rs ++ [.z]) → Q .none st') : CodeOk w b 3 (.ref 146) [.obj x] st Q := by
  obtain ⟨dx, k, bg, pt, P⟩ := P
  have ex := P.ex
  have ed := P.ed
  have pp := P.pp
  have pb := P.pb
  have hv : ∀ v, pt ≠ .val v := by rintro v rfl; cases pp
  obtain ⟨ini, r', hrs⟩ : ∃ ini r', rs = ini ++ [r'] := by
    rcases List.eq_nil_or_concat rs with rfl | ⟨ini, r, hr⟩
    · exact (hne rfl).elim
    · exact ⟨ini, r, by rw [List.concat_eq_append] at hr; exact hr⟩
  ks_step "fill"
  refine' CODE_def G (["self"] : List Str) ?ho ?hcd ?hb ?hl ?_ ?hn ?hk ?hco ?hgen
  ks_step "def"
  ks_step "r"
  refine CMP_is_none hv ?_
  ks_step "r"
  refine ite_ff (P.some hne) ?_
  ks_step "r"
  refine GETS_last (xs := ini.map Row.av) (x := r'.av) (by rw [P.ek, hrs]; simp) ?_
  ks_step "r"
  refine GETS_row0 ?_
  ks_step "r"
  refine ite_ff (by rw [kd_z]; rw [hrs, lastKd_snoc] at hnz; simpa using hnz) ?_
  ks_step "r"
  intro a ha
  ks_step "r"
  refine CodeOk.at (room_ok (new := [.z]) G ⟨dx, k, bg, pt, P.keep (Ext.new ha)⟩ upd_self (by simpa [okFrom] using hok) hz fun st₁ hx₁ => ?_)
  replace P := P.keep ((Ext.new ha).trans hx₁)
  clear hx₁ ha ex ed
  have ex := P.ex
  have ed := P.ed
  ks_step "r"
  refine ⟨_, _, rfl, P.ek, ?_⟩
  ks_step "r"
  refine ⟨_, P.ek, by simp [sizeLine]; omega, ?_⟩
  have ex' := upd_oth (x := .list (rs.map Row.av ++ [.tup [.str "z"]])) P.xk P.ex
  have ed' := upd_oth (x := .list (rs.map Row.av ++ [.tup [.str "z"]])) P.kd.symm P.ed
  ks_step "r"
  refine ⟨_, _, _, rfl, upd_oth P.xk P.ex, upd_oth P.kd.symm P.ed, pFs k bg bg, rfl, by simp, ?_⟩
  ks_step "r"
  exact h _ ⟨_, _, _, _, P.fin1 (r := .z) P.pb P.pb (P.sb hne) (P.sb hne)⟩
end

/-! C9 -/
section

variable {w : World} {b : Heap} {lev : Nat} {sc : Scope} {ρ : Ren} {st : St}
theorem ok_at : ∀ {rs : List Row} {last : Option Kd} {i : Nat} {r : Row}, okFrom last rs = true → rs[i]? = some r → okStep (if rs.take i = [] then last else lastKd (rs.take i)) r = true := by
  intro rs last i r hok hr
  obtain ⟨hlt, hr'⟩ := List.getElem?_eq_some_iff.mp hr
  have e : rs = rs.take i ++ (r :: rs.drop (i + 1)) := by rw [← hr', ← List.drop_eq_getElem_cons hlt, List.take_append_drop]
  rw [e, okFrom_append, Bool.and_eq_true] at hok
  have h2 := hok.2
  simp only [okFrom, Bool.and_eq_true] at h2
  exact h2.1
theorem ok_at0 {rs : List Row} {i : Nat} {r : Row} (hok : okFrom none rs = true) (hr : rs[i]? = some r) : okStep (lastKd (rs.take i)) r = true := by
  have := ok_at hok hr
  split at this
  · rename_i e; rw [e]; exact this
  · exact this
theorem getLast_none {rs : List Row} (h : lastKd rs ≠ none) : rs ≠ [] := by rintro rfl; exact h rfl

theorem put_ok (G : Gd w b) {st₀ : St} {x a : Addr} {rs : List Row} {Q : AV → St → Prop} (P : PathAt st₀ st x []) (ea : st₀ a = some (.list (rs.map Row.av))) (hok : okFrom none rs = true) (hz : rs.length ≤ 1500) (h : ∀ st', PathAt st₀ st' x rs → Q .none st') : CodeOk w b 5 (.ref 153) [.obj x, .obj a] st Q := by
  obtain ⟨dx, k, bg, pt, P⟩ := P
  have ex := P.ex
  have ed := P.ed
  have ea' := P.ext _ _ ea
  ks_step "fill"
  refine' CODE_def G (["self", "rows"] : List Str) ?ho ?hcd ?hb ?hl ?_ ?hn ?hk ?hco ?hgen
  ks_step "def"
  ks_step "r"
  refine C_len_list ea' (by simp [sizeLine]; omega) ?_
  ks_step "r"
  have hif : ∀ {X Y : Prop}, (rs ≠ [] → X) → (rs = [] → Y) → if decide ((0 : Int) < ((rs.map Row.av).length : Int)) = true then X else Y := by
    intro X Y hx hy
    by_cases e : rs = []
    · subst e; rw [if_neg (by simp)]; exact hy rfl
    · rw [if_pos (by have := List.length_pos_iff.mpr e; rw [List.length_map]; simp; omega)]; exact hx e
  refine hif (fun hne => ?_) fun he => ?_
  · obtain ⟨r, hr0, hm⟩ : ∃ r, rs[0]? = some r ∧ r.kd = .m := by
      obtain ⟨r, rest, rfl⟩ := List.exists_cons_of_ne_nil hne
      simp only [okFrom, Bool.and_eq_true] at hok
      exact ⟨r, rfl, by cases r <;> simp_all [okStep, Row.kd]⟩
    ks_step "r"
    refine GETS_l ⟨_, ea', r.av, by simp [hr0], ?_⟩
    ks_step "r"
    refine GETS_row0 ?_
    rw [hm]
    ks_step "r"
    refine CodeOk.at (room_ok (new := rs) G ⟨_, _, _, _, P⟩ ea' hok (by simp; omega) fun st₁ hx₁ => ?_)
    ks_step "r"
    have P₁ : PathAt st₀ st₁ x [] := ⟨_, _, _, _, P.keep hx₁⟩
    refine ES_For (.obj a) (rs.map Row.av) (fun i ρ' st' => PathAt st₀ st' x (rs.take i) ∧ ρ' "self" = some (.obj x)) ?_ (hg := letGo_name)
    ks_step "r"
    refine ⟨rfl, ?_, ⟨P₁, rfl⟩, ?_, ?_⟩
    · rintro i ρ' st' ⟨⟨_, _, _, _, P'⟩, -⟩
      exact .list (P'.ext _ _ ea)
    · rintro i y ρ' st' hy ⟨P', hself⟩
      refine ⟨_, asg_name, ?_⟩
      intro Qn hQn
      rw [List.getElem?_map] at hy
      cases hr : rs[i]? with
      | none => rw [hr] at hy; cases hy
      | some r =>
        rw [hr] at hy; cases hy
        have hlt := (List.getElem?_eq_some_iff.mp hr).1
        have hstep := ok_at0 hok hr
        have hlen : (rs.take i).length + 1 ≤ 1500 := by rw [List.length_take]; omega
        have htk : rs.take (i + 1) = rs.take i ++ [r] := by rw [List.take_add_one, hr]; rfl
        have P'' := P'
        obtain ⟨dx, k, bg, pt, P''⟩ := P''
        have ex := P''.ex
        have ed := P''.ed
        cases r with
        | m p =>
          ks_step "r"
          refine CodeOk.at (move_ok G P' hstep hlen fun st'' P₂ => ?_)
          ks_step "r"
          exact ⟨htk ▸ P₂, hself⟩
        | l p =>
          have hne' : rs.take i ≠ [] := getLast_none (by intro e; rw [e] at hstep; cases hstep)
          ks_step "r"
          refine CodeOk.at (line_ok G P' hne' (by intro e; rw [e] at hstep; cases hstep) hstep hlen fun st'' P₂ => ?_)
          ks_step "r"
          exact ⟨htk ▸ P₂, hself⟩
        | c p q s =>
          have hne' : rs.take i ≠ [] := getLast_none (by intro e; rw [e] at hstep; cases hstep)
          ks_step "r"
          refine CodeOk.at (curve_ok G P' hne' (by intro e; rw [e] at hstep; cases hstep) hstep hlen fun st'' P₂ => ?_)
          ks_step "r"
          exact ⟨htk ▸ P₂, hself⟩
        | z =>
          have hne' : rs.take i ≠ [] := getLast_none (by intro e; rw [e] at hstep; cases hstep)
          ks_step "r"
          refine CodeOk.at (close_ok G P' hne' (by intro e; rw [e] at hstep; cases hstep) hstep hlen fun st'' P₂ => ?_)
          ks_step "r"
          exact ⟨htk ▸ P₂, hself⟩
    · rintro ρ' st' ⟨P', -⟩
      rw [List.length_map, List.take_length] at P'
      ks_step "r"
      exact h st' P'
  · ks_step "r"
    refine CodeOk.at (room_ok (new := rs) G ⟨_, _, _, _, P⟩ ea' hok (by simp; omega) fun st₁ hx₁ => ?_)
    ks_step "r"
    have P₁ : PathAt st₀ st₁ x [] := ⟨_, _, _, _, P.keep hx₁⟩
    refine ES_For (.obj a) (rs.map Row.av) (fun i ρ' st' => PathAt st₀ st' x (rs.take i) ∧ ρ' "self" = some (.obj x)) ?_ (hg := letGo_name)
    ks_step "r"
    refine ⟨rfl, ?_, ⟨P₁, rfl⟩, ?_, ?_⟩
    · rintro i ρ' st' ⟨⟨_, _, _, _, P'⟩, -⟩
      exact .list (P'.ext _ _ ea)
    · rintro i y ρ' st' hy ⟨P', hself⟩
      refine ⟨_, asg_name, ?_⟩
      intro Qn hQn
      rw [List.getElem?_map] at hy
      cases hr : rs[i]? with
      | none => rw [hr] at hy; cases hy
      | some r =>
        rw [hr] at hy; cases hy
        have hlt := (List.getElem?_eq_some_iff.mp hr).1
        have hstep := ok_at0 hok hr
        have hlen : (rs.take i).length + 1 ≤ 1500 := by rw [List.length_take]; omega
        have htk : rs.take (i + 1) = rs.take i ++ [r] := by rw [List.take_add_one, hr]; rfl
        have P'' := P'
        obtain ⟨dx, k, bg, pt, P''⟩ := P''
        have ex := P''.ex
        have ed := P''.ed
        cases r with
        | m p =>
          ks_step "r"
          refine CodeOk.at (move_ok G P' hstep hlen fun st'' P₂ => ?_)
          ks_step "r"
          exact ⟨htk ▸ P₂, hself⟩
        | l p =>
          have hne' : rs.take i ≠ [] := getLast_none (by intro e; rw [e] at hstep; cases hstep)
          ks_step "r"
          refine CodeOk.at (line_ok G P' hne' (by intro e; rw [e] at hstep; cases hstep) hstep hlen fun st'' P₂ => ?_)
          ks_step "r"
          exact ⟨htk ▸ P₂, hself⟩
        | c p q s =>
          have hne' : rs.take i ≠ [] := getLast_none (by intro e; rw [e] at hstep; cases hstep)
          ks_step "r"
          refine CodeOk.at (curve_ok G P' hne' (by intro e; rw [e] at hstep; cases hstep) hstep hlen fun st'' P₂ => ?_)
          ks_step "r"
          exact ⟨htk ▸ P₂, hself⟩
        | z =>
          have hne' : rs.take i ≠ [] := getLast_none (by intro e; rw [e] at hstep; cases hstep)
          ks_step "r"
          refine CodeOk.at (close_ok G P' hne' (by intro e; rw [e] at hstep; cases hstep) hstep hlen fun st'' P₂ => ?_)
          ks_step "r"
          exact ⟨htk ▸ P₂, hself⟩
    · rintro ρ' st' ⟨P', -⟩
      rw [List.length_map, List.take_length] at P'
      ks_step "r"
      exact h st' P'
theorem path_of_ok (G : Gd w b) {a : Addr} {rs : List Row} {Q : AV → St → Prop} (ea : st a = some (.list (rs.map Row.av))) (hok : okFrom none rs = true) (hz : rs.length ≤ 1500) (h : ∀ x st', PathAt st st' x rs → Q (.obj x) st') : CodeOk w b 6 (.ref 196) [.obj a, .int 1500] st Q := by
  ks_step "fill"
  refine' CODE_def G (["rows", "most"] : List Str) ?ho ?hcd ?hb ?hl ?_ ?hn ?hk ?hco ?hgen
  ks_step "def"
  ks_step "r"
  refine CodeOk.at (make_1 G fun x st' P => ?_)
  have P' := P
  obtain ⟨dx, k, bg, pt, P'⟩ := P'
  have ex := P'.ex
  have ed := P'.ed
  ks_step "r"
  refine CodeOk.at (put_ok G P ea hok hz fun st'' P'' => ?_)
  ks_step "r"
  exact h x st'' P''
end

/-! C10 -/
section

variable {w : World} {b : Heap} {lev : Nat} {sc : Scope} {ρ : Ren} {st : St}
@[reducible] noncomputable def ptAv : Option Pt → AV
  | none => .none
  | some p => pav p
theorem SmallQ {h p q s : Pt} (hh : Small h) (hr : (Row.c p q s).Small) : (Quad.mk h p q s).Small := ⟨hh, hr p (by simp [Row.pts]), hr q (by simp [Row.pts]), hr s (by simp [Row.pts])⟩

theorem flattened_ok (G : Gd w b) {a : Addr} {rs : List Row} {fl : Int} {Q : AV → St → Prop} (ea : st a = some (.list (rs.map Row.av))) (hok : okFrom none rs = true) (hz : rs.length ≤ 1500) (hf : fl.natAbs ≤ 2 ^ 40) (hs : ∀ r ∈ rs, r.Small) (hfl : (flat fl rs).length ≤ 1500)
    (h : ∀ A st', Ext st st' → st A = none → st' A = some (.list ((flat fl rs).map Row.av)) → Q (.obj A) st') : CodeOk w b 4 (.ref 251) [.obj a, .int fl, .int 1500] st Q := by
  ks_step "fill"
  refine' CODE_def G (["rows", "flatness", "most"] : List Str) ?ho ?hcd ?hb ?hl ?_ ?hn ?hk ?hco ?hgen
  ks_step "def"
  ks_step "r"
  intro A nA
  ks_step "r"
  refine ES_For (.obj a) (rs.map Row.av) (fun i ρ' st' => ∃ fd here last, ρ' "flatness" = some (.int fl) ∧ ρ' "most" = some (.int 1500) ∧ ρ' "found" = some (.obj A) ∧ ρ' "here" = some (ptAv here) ∧ st' A = some (.list (fd.map Row.av)) ∧ Ext st st' ∧
    fd ++ flatFrom fl here (rs.drop i) = flat fl rs ∧ okFrom last (rs.drop i) = true ∧ (here = none → last = none) ∧ (∀ p, here = some p → Small p)) ?_ (hg := letGo_name)
  ks_step "r"
  refine ⟨rfl, ?_, ⟨[], none, none, rfl, rfl, rfl, rfl, upd_self, Ext.new nA, rfl, hok, fun _ => rfl, fun _ e => by cases e⟩, ?_, ?_⟩
  · rintro i ρ' st' ⟨fd, here, last, -, -, -, -, -, hx, -⟩
    exact .list (hx _ _ ea)
  · rintro i y ρ' st' hy ⟨fd, here, last, h1, h2, h3, h4, eA, hx, hfd, hok', hhl, hsm⟩
    refine ⟨_, asg_name, ?_⟩
    intro Qn hQn
    rw [List.getElem?_map] at hy
    cases hr : rs[i]? with
    | none => rw [hr] at hy; cases hy
    | some r =>
      rw [hr] at hy; cases hy
      obtain ⟨hlt, hr'⟩ := List.getElem?_eq_some_iff.mp hr
      rw [List.drop_eq_getElem_cons hlt, hr'] at hok' hfd
      simp only [okFrom, Bool.and_eq_true] at hok'
      obtain ⟨hst, hok'⟩ := hok'
      have hrs : r.Small := hs r (List.mem_of_getElem? hr)
      have hlen := congrArg List.length hfd
      rw [List.length_append] at hlen
      have hfdl : fd.length ≤ 1500 := by omega
      ks_step "r"
      cases r with
      | m p =>
        ks_step "r"
        refine ⟨_, _, rfl, eA, ?_⟩
        ks_step "r"
        refine ⟨_, eA, by simp [sizeLine]; omega, ?_⟩
        ks_step "r"
        refine CodeOk.at (points_ok (r := .m p) G fun D nD => ?_)
        ks_step "r"
        refine GETS_last (xs := []) (x := pav p) upd_self ?_
        ks_step "r"
        exact ⟨fd ++ [.m p], some p, some .m, h1, h2, h3, rfl, by rw [upd_old nD upd_self]; simp, (hx.mut nA).trans (Ext.new nD), by rw [← hfd]; simp [flatFrom], hok', (fun e => by cases e), (fun p' e => by cases e; exact hrs p (by simp [Row.pts]))⟩
      | l p =>
        ks_step "r"
        refine ⟨_, _, rfl, eA, ?_⟩
        ks_step "r"
        refine ⟨_, eA, by simp [sizeLine]; omega, ?_⟩
        ks_step "r"
        refine CodeOk.at (points_ok (r := .l p) G fun D nD => ?_)
        ks_step "r"
        refine GETS_last (xs := []) (x := pav p) upd_self ?_
        ks_step "r"
        exact ⟨fd ++ [.l p], some p, some .l, h1, h2, h3, rfl, by rw [upd_old nD upd_self]; simp, (hx.mut nA).trans (Ext.new nD), by rw [← hfd]; simp [flatFrom], hok', (fun e => by cases e), (fun p' e => by cases e; exact hrs p (by simp [Row.pts]))⟩
      | c p q s =>
        obtain ⟨h0, rfl⟩ : ∃ h0, here = some h0 := by
          cases here with
          | none => rw [hhl rfl] at hst; cases hst
          | some h0 => exact ⟨h0, rfl⟩
        ks_step "r"
        intro B nB
        ks_step "r"
        refine CodeOk.at (points_ok (r := .c p q s) G fun D nD => ?_)
        ks_step "r"
        refine BIN_addL (upd_old nD upd_self) upd_self (by simp [sizeLine, Row.pts]) fun E nE => ?_
        have hx₁ := ((Ext.new (o := .list [ptAv (some h0)]) nB).trans (Ext.new (o := .list ((Row.c p q s).pts.map pav)) nD)).trans (Ext.new (o := .list ([ptAv (some h0)] ++ (Row.c p q s).pts.map pav)) nE)
        have eE : upd (upd (upd st' B (.list [ptAv (some h0)])) D (.list ((Row.c p q s).pts.map pav))) E (.list ([ptAv (some h0)] ++ (Row.c p q s).pts.map pav)) E = _ := upd_self
        have eA₁ := hx₁ _ _ eA
        replace hx₁ := hx.trans hx₁
        generalize upd (upd (upd st' B (.list [ptAv (some h0)])) D (.list ((Row.c p q s).pts.map pav))) E (.list ([ptAv (some h0)] ++ (Row.c p q s).pts.map pav)) = st₁ at *
        clear nB nD nE
        ks_step "r"
        have hdr : fd ++ ((ends 10 ⟨h0, p, q, s⟩ fl).map Row.l ++ flatFrom fl (some s) (rs.drop (i + 1))) = flat fl rs := by rw [← hfd]; simp [flatFrom]
        have hdl := congrArg List.length hdr
        simp only [List.length_append, List.length_map] at hdl
        refine ES_ForE ?_
        ks_step "r"
        refine C_tuple eE (by simp [sizeLine, Row.pts]) ?_
        ks_step "r"
        refine CodeOk.at (ends_ok (q := ⟨h0, p, q, s⟩) G (SmallQ (hsm _ rfl) hrs) hf fun A₂ st₂ hx₂ nA₂ eA₂ => ?_)
        ks_step "r"
        have eA' := hx₂ _ _ eA₁
        have hA₂ : A₂ ≠ A := (ne_of eA₁ nA₂).symm
        replace hx₂ := hx₁.trans hx₂
        refine ⟨_, fun j ρ'' st'' => ρ'' "flatness" = some (.int fl) ∧ ρ'' "most" = some (.int 1500) ∧ ρ'' "found" = some (.obj A) ∧ ρ'' "row" = some (Row.c p q s).av ∧ st'' A = some (.list ((fd ++ ((ends 10 ⟨h0, p, q, s⟩ fl).take j).map Row.l).map Row.av)) ∧ st'' A₂ = some (.list ((ends 10 ⟨h0, p, q, s⟩ fl).map pav)) ∧ Ext st st'',
          fun j ρ'' st'' hJ => .list hJ.2.2.2.2.2.1, ⟨h1, h2, h3, rfl, by simpa using eA', eA₂, hx₂⟩, ?_, ?_, letGo_tup fun x hx => by obtain ⟨y, -, rfl⟩ := List.mem_map.mp hx; exact ⟨_, rfl⟩⟩
        · rintro j y ρ'' st'' hy ⟨g1, g2, g3, g4, gA, gA₂, gx⟩
          rw [List.getElem?_map] at hy
          cases he : (ends 10 ⟨h0, p, q, s⟩ fl)[j]? with
          | none => rw [he] at hy; cases hy
          | some e =>
            rw [he] at hy; cases hy
            have hj := (List.getElem?_eq_some_iff.mp he).1
            refine ⟨_, asg_two, ?_⟩
            intro Qn hQn
            ks_step "r"
            refine ⟨_, _, rfl, gA, ?_⟩
            ks_step "r"
            refine ⟨_, gA, by simp [sizeLine]; omega, ?_⟩
            ks_step "r"
            refine ⟨g1, g2, g3, g4, ?_, upd_oth hA₂ gA₂, gx.mut nA⟩
            rw [upd_self, List.take_add_one, he]
            simp
        · rintro ρ'' st'' ⟨g1, g2, g3, g4, gA, gA₂, gx⟩
          rw [List.length_map, List.take_length] at gA
          ks_step "r"
          refine C_len_list gA (by simp [sizeLine]; omega) ?_
          ks_step "r"
          refine ite_ff (by simp; omega) ?_
          ks_step "r"
          refine CodeOk.at (points_ok (r := .c p q s) G fun D nD => ?_)
          ks_step "r"
          refine GETS_last (xs := [pav p, pav q]) (x := pav s) upd_self ?_
          ks_step "r"
          exact ⟨fd ++ (ends 10 ⟨h0, p, q, s⟩ fl).map Row.l, some s, some .c, g1, g2, g3, rfl, upd_old nD gA, gx.trans (Ext.new nD), by rw [← hdr]; simp, hok', (fun e => by cases e), (fun p' e => by cases e; exact hrs _ (by simp [Row.pts]))⟩
      | z =>
        ks_step "r"
        refine ⟨_, _, rfl, eA, ?_⟩
        ks_step "r"
        refine ⟨_, eA, by simp [sizeLine]; omega, ?_⟩
        ks_step "r"
        exact ⟨fd ++ [.z], here, some .z, h1, h2, h3, h4, by rw [upd_self]; simp, hx.mut nA, by rw [← hfd]; simp [flatFrom], hok', (fun e => by rw [hhl e] at hst; cases hst), hsm⟩
  · rintro ρ' st' ⟨fd, here, last, h1, h2, h3, h4, eA, hx, hfd, hok', hhl, hsm⟩
    rw [List.length_map, List.drop_length, flatFrom, List.append_nil] at hfd
    ks_step "r"
    exact h A st' hx nA (hfd ▸ eA)
end

/-! C11 -/
section

variable {w : World} {b : Heap} {lev : Nat} {sc : Scope} {ρ : Ren} {st : St}
structure FlatOk (fl : Int) (rs : List Row) : Prop where
  ok : okFrom none rs = true
  z : rs.length ≤ 1500
  f : fl.natAbs ≤ 2 ^ 40
  s : ∀ r ∈ rs, r.Small
  ok' : okFrom none (flat fl rs) = true
  z' : (flat fl rs).length ≤ 1500
theorem beqs_self (rs : List Row) : AV.beqs (rs.map Row.av) (rs.map Row.av) = true := (AV.beqs_iff (rows_dat rs) (rows_dat rs)).mpr rfl

theorem flattened_m (G : Gd w b) {st₀ : St} {x : Addr} {rs : List Row} {fl : Int} {Q : AV → St → Prop} (P : PathAt st₀ st x rs) (F : FlatOk fl rs) (h : ∀ y st', PathAt st st' y (flat fl rs) → Q (.obj y) st') : CodeOk w b 7 (.ref 167) [.obj x, .int fl] st Q := by
  obtain ⟨dx, k, bg, pt, P⟩ := P
  have ex := P.ex
  have ed := P.ed
  ks_step "fill"
  refine' CODE_def G (["self", "flatness"] : List Str) ?ho ?hcd ?hb ?hl ?_ ?hn ?hk ?hco ?hgen
  ks_step "def"
  ks_step "r"
  refine CodeOk.at (flattened_ok G P.ek F.ok F.z F.f F.s F.z' fun A st₁ hx₁ nA eA => ?_)
  have ex := hx₁ _ _ ex
  have ed := hx₁ _ _ ed
  ks_step "r"
  refine CodeOk.at (path_of_ok G eA F.ok' F.z' fun y st₂ P₂ => ?_)
  ks_step "r"
  obtain ⟨dy, ky, by', pty, P₂⟩ := P₂
  have none_of : ∀ c, st₁ c = none → st c = none := fun c e => by
    cases hc : st c with
    | none => rfl
    | some o => rw [hx₁ _ _ hc] at e; cases e
  exact h y st₂ ⟨dy, ky, by', pty, none_of _ P₂.nx, none_of _ P₂.nd, none_of _ P₂.nk, P₂.ex, P₂.ed, P₂.ek, P₂.pb, P₂.pp, P₂.some, P₂.sb, hx₁.trans P₂.ext⟩

theorem law_flat_ok (G : Gd w b) {a : Addr} {rs : List Row} {fl : Int} {Q : AV → St → Prop} (ea : st a = some (.list (rs.map Row.av))) (F : FlatOk fl rs) (h : ∀ D st', Ext st st' → st D = none → st' D = some (.list ((flat fl rs).map Row.av)) → Q (.obj D) st') : CodeOk w b 8 (.ref 300) [.obj a, .int fl] st Q := by
  ks_step "fill"
  refine' CODE_def G (["rows", "flatness"] : List Str) ?ho ?hcd ?hb ?hl ?_ ?hn ?hk ?hco ?hgen
  ks_step "def"
  ks_step "r"
  refine CodeOk.at (make_0 G fun x st₁ P => ?_)
  have P' := P
  obtain ⟨dx, k, bg, pt, P'⟩ := P'
  have ex := P'.ex
  have ed := P'.ed
  ks_step "r"
  refine CodeOk.at (put_ok G P ea F.ok F.z fun st₂ P₂ => ?_)
  clear P P' ex ed
  have P := P₂
  obtain ⟨dx, k, bg, pt, P⟩ := P
  have ex := P.ex
  have ed := P.ed
  ks_step "r"
  refine CodeOk.at (flattened_m G P₂ F fun y st₃ P₃ => ?_)
  have P₃' := P₃
  obtain ⟨dy, ky, bgy, pty, P₃'⟩ := P₃'
  have ey := P₃'.ex
  have edy := P₃'.ed
  ks_step "r"
  refine CodeOk.at (rows_ok G P₃ (by have := F.z'; simp [sizeLine]; omega) fun D nD => ?_)
  ks_step "r"
  have ex' := Ext.new (o := .list ((flat fl rs).map Row.av)) nD _ _ (P₃'.ext _ _ ex)
  have ed' := Ext.new (o := .list ((flat fl rs).map Row.av)) nD _ _ (P₃'.ext _ _ ed)
  have eD : upd st₃ D (.list ((flat fl rs).map Row.av)) D = _ := upd_self
  have hx := (P.ext.trans P₃'.ext).trans (Ext.new (o := .list ((flat fl rs).map Row.av)) nD)
  have nD' : st D = none := by
    cases hc : st D with
    | none => rfl
    | some o => rw [(P.ext.trans P₃'.ext) _ _ hc] at nD; cases nD
  have P₄ : PathAt st (upd st₃ D (.list ((flat fl rs).map Row.av))) x rs := ⟨_, _, _, _, P.keep (P₃'.ext.trans (Ext.new nD))⟩
  generalize upd st₃ D (.list ((flat fl rs).map Row.av)) = st₄ at *
  ks_step "r"
  refine CodeOk.at (rows_ok G P₄ (by have := F.z; simp [sizeLine]; omega) fun E nE => ?_)
  ks_step "r"
  refine CMP_eq_list upd_self (upd_old nE (hx _ _ ea)) (rows_dat _) (rows_dat _) ?_
  ks_step "r"
  refine ite_tt (beqs_self _) ?_
  ks_step "r"
  exact h D _ (hx.trans (Ext.new nE)) nD' (upd_old nE eD)
end

/-! C12 -/
section

variable {w : World} {b : Heap} {lev : Nat} {sc : Scope} {ρ : Ren} {st : St}
structure TapeIn (st : St) (t : Addr) (n : Int) (l : Addr) (ds : List Int) (k : Int) : Prop where
  et : st t = some (.list [.obj l, .int k])
  el : st l = some (.list (ds.map .int))
  lt : l ≠ t
  dp : ∀ d ∈ ds, 0 ≤ d
  dl : ds.length ≤ 63
  k0 : 0 ≤ k
  kn : k ≤ n
noncomputable def Tape (st : St) (t : Addr) (n : Int) : Prop := ∃ l ds k, TapeIn st t n l ds k
theorem Tape.ext {st st' : St} {t : Addr} {n : Int} (T : Tape st t n) (e : Ext st st') : Tape st' t n := by
  obtain ⟨l, ds, k, T⟩ := T
  exact ⟨l, ds, k, e _ _ T.et, e _ _ T.el, T.lt, T.dp, T.dl, T.k0, T.kn⟩
theorem Tape.le {st : St} {t : Addr} {n m : Int} (T : Tape st t n) (e : n ≤ m) : Tape st t m := by
  obtain ⟨l, ds, k, T⟩ := T
  exact ⟨l, ds, k, T.et, T.el, T.lt, T.dp, T.dl, T.k0, Int.le_trans T.kn e⟩

theorem draw_ok (G : Gd w b) {t : Addr} {n many : Int} {Q : AV → St → Prop} (T : Tape st t n) (hn : n ≤ 2 ^ 30) (hm : 0 < many) (hm' : many < 1073741824)
    (h : ∀ r st', 0 ≤ r → r < many → Tape st' t (n + 1) → Ch t st st' → Q (.int r) st') : CodeOk w b 1 (.ref 259) [.obj t, .int many] st Q := by
  obtain ⟨l, ds, k, T⟩ := T
  have m0 : ∀ x : Int, 0 ≤ x.fmod many := fun x => Int.fmod_nonneg_of_pos x hm
  have m1 : ∀ x : Int, x.fmod many < many := fun x => Int.fmod_lt_of_pos x hm
  have hd : AV.dats 8 (ds.map AV.int) = true := dats_map fun _ _ => rfl
  ks_step "fill"
  refine' CODE_def G (["tape", "many"] : List Str) ?ho ?hcd ?hb ?hl ?_ ?hn ?hk ?hco ?hgen
  ks_step "def"
  ks_step "r"
  refine GETS_l ⟨_, T.et, _, rfl, ?_⟩
  ks_step "r"
  refine ⟨_, _, rfl, T.el, hd, fun d nd => ?_⟩
  have et := upd_old (x := .list []) nd T.et
  have el := upd_old (x := .list []) nd T.el
  have hx := (Ext.new (o := .list []) nd).ch t
  generalize upd st d (.list []) = st₁ at *
  clear nd
  cases ds with
  | nil =>
    ks_step "r"
    refine GETS_l ⟨_, et, _, rfl, ?_⟩
    ks_step "r"
    refine ⟨_, _, _, rfl, et, rfl, by decide, by decide, by simp, ?_⟩
    have et' : upd st₁ t (.list [.obj l, .int (k + 1)]) t = _ := upd_self
    have el' := upd_oth (x := .list [.obj l, .int (k + 1)]) T.lt el
    have hx' := hx.trans (Ch.upd t (.list [.obj l, .int (k + 1)]))
    have e : (AObj.list ([AV.obj l, AV.int k].set (1 : Int).toNat (AV.int (k + 1)))) = .list [.obj l, .int (k + 1)] := rfl
    rw [e]
    generalize upd st₁ t (.list [.obj l, .int (k + 1)]) = st₂ at *
    have hk := T.k0
    have hkn := T.kn
    ks_step "r"
    refine GETS_l ⟨_, et', _, rfl, ?_⟩
    ks_step "r"
    refine GETS_l ⟨_, et', _, rfl, ?_⟩
    ks_step "r"
    refine BIN_fmod (by omega) ?_
    ks_step "r"
    exact h _ _ (m0 _) (m1 _) ⟨l, [], k + 1, et', el', T.lt, (fun _ h => nomatch h), by simp, by omega, by omega⟩ hx'
  | cons c ds =>
    ks_step "r"
    refine GETS_l ⟨_, et, _, rfl, ?_⟩
    ks_step "r"
    refine GETS_l ⟨_, el, _, rfl, ?_⟩
    ks_step "r"
    refine BIN_fmod (by omega) ?_
    ks_step "r"
    refine GETS_l ⟨_, et, _, rfl, ?_⟩
    ks_step "r"
    refine GETS_l ⟨_, el, _, rfl, ?_⟩
    ks_step "r"
    refine BIN_fdiv (by omega) (by omega) ?_
    ks_step "r"
    refine ite_bb (fun hc => ?_) fun hc => ?_
    · have hc : 0 < c.fdiv many := by simpa using hc
      ks_step "r"
      intro a na
      ks_step "r"
      refine GETS_l ⟨_, upd_old na et, _, rfl, ?_⟩
      ks_step "r"
      refine .inl ⟨_, _, 1, rfl, upd_old na el, EV_int ⟨rfl, rfl⟩, by decide, by have := T.dl; simp [sizeLine] at *; omega, fun e ne => ?_⟩
      ks_step "r"
      refine BIN_addL (upd_old ne upd_self) upd_self (by have := T.dl; simp [sizeLine] at *; omega) fun f nf => ?_
      have e1 : ((c :: ds).map AV.int).drop (1 : Int).toNat = ds.map AV.int := rfl
      (try rw [e1] at nf)
      (try rw [e1])
      have hx' := hx.trans ((((Ext.new na).trans (Ext.new ne)).trans (Ext.new (o := .list ([AV.int (c.fdiv many)] ++ ds.map AV.int)) nf)).ch t)
      have et' := upd_old (x := .list ([AV.int (c.fdiv many)] ++ ds.map AV.int)) nf (upd_old ne (upd_old na et))
      have ft : f ≠ t := (ne_of (upd_old ne (upd_old na et)) nf).symm
      have ef : upd _ f (.list ([AV.int (c.fdiv many)] ++ ds.map AV.int)) f = _ := upd_self (st := upd (upd st₁ a (.list [AV.int (c.fdiv many)])) e (.list (ds.map AV.int)))
      generalize upd (upd (upd st₁ a (.list [AV.int (c.fdiv many)])) e (.list (ds.map AV.int))) f (.list ([AV.int (c.fdiv many)] ++ ds.map AV.int)) = st₂ at *
      ks_step "r"
      refine ⟨_, _, _, rfl, et', rfl, by decide, by decide, by simp, ?_⟩
      ks_step "r"
      refine h _ _ (m0 _) (m1 _) ⟨f, c.fdiv many :: ds, k, upd_self, upd_oth ft ef, ft, (fun x hx => (List.mem_cons.mp hx).elim (fun e => by omega) fun m => T.dp _ (.tail _ m)), by have := T.dl; simp at *; omega, T.k0, by have := T.kn; omega⟩ (hx'.trans (Ch.upd t _))
    · ks_step "r"
      intro a na
      ks_step "r"
      refine GETS_l ⟨_, upd_old na et, _, rfl, ?_⟩
      ks_step "r"
      refine .inl ⟨_, _, 1, rfl, upd_old na el, EV_int ⟨rfl, rfl⟩, by decide, by have := T.dl; simp [sizeLine] at *; omega, fun e ne => ?_⟩
      ks_step "r"
      refine BIN_addL (upd_old ne upd_self) upd_self (by have := T.dl; simp [sizeLine] at *; omega) fun f nf => ?_
      have e1 : ((c :: ds).map AV.int).drop (1 : Int).toNat = ds.map AV.int := rfl
      (try rw [e1] at nf)
      (try rw [e1])
      have hx' := hx.trans ((((Ext.new na).trans (Ext.new ne)).trans (Ext.new (o := .list (([] : List AV) ++ ds.map AV.int)) nf)).ch t)
      have et' := upd_old (x := .list (([] : List AV) ++ ds.map AV.int)) nf (upd_old ne (upd_old na et))
      have ft : f ≠ t := (ne_of (upd_old ne (upd_old na et)) nf).symm
      have ef : upd _ f (.list (([] : List AV) ++ ds.map AV.int)) f = _ := upd_self (st := upd (upd st₁ a (.list ([] : List AV))) e (.list (ds.map AV.int)))
      generalize upd (upd (upd st₁ a (.list ([] : List AV))) e (.list (ds.map AV.int))) f (.list (([] : List AV) ++ ds.map AV.int)) = st₂ at *
      ks_step "r"
      refine ⟨_, _, _, rfl, et', rfl, by decide, by decide, by simp, ?_⟩
      ks_step "r"
      refine h _ _ (m0 _) (m1 _) ⟨f, ds, k, upd_self, upd_oth ft ef, ft, (fun x hx => T.dp _ (.tail _ hx)), by have := T.dl; simp at *; omega, T.k0, by have := T.kn; omega⟩ (hx'.trans (Ch.upd t _))
end

/-! C13 -/
section

variable {w : World} {b : Heap} {lev : Nat} {sc : Scope} {ρ : Ren} {st : St}
theorem Ch.mut {t : Addr} {st st' : St} {B : Addr} {o : AObj} (x : Ch t st st') (n : st B = none) : Ch t st (Mine.upd st' B o) := fun a y m e => by rw [upd_ne (ne_of e n)]; exact x a y m e
theorem Tape.mut {st : St} {t B : Addr} {n : Int} {xs : List AV} {o : AObj} (T : Tape st t n) (hB : B ≠ t) (eB : st B = some (.list xs)) (hs : ∀ ds : List Int, xs ≠ ds.map .int) : Tape (upd st B o) t n := by
  obtain ⟨l, ds, k, T⟩ := T
  have hl : l ≠ B := fun q => by subst q; have := T.el; rw [eB] at this; cases this; exact hs _ rfl
  exact ⟨l, ds, k, upd_oth hB.symm T.et, upd_oth hl T.el, T.lt, T.dp, T.dl, T.k0, T.kn⟩
noncomputable def InBox (u x : Int) : Prop := (u = 0 → 0 ≤ x ∧ x ≤ 1) ∧ (u ≠ 0 → -(8 * u) ≤ x ∧ x ≤ 8 * u)
noncomputable def Box (u : Int) (p : Pt) : Prop := InBox u p.1 ∧ InBox u p.2
theorem mulOk {u r : Int} (h0 : 0 ≤ u) (h1 : u ≤ 1000000) : IntMulOk r u := IntMulOk.of_right (PySem.intBits_le_iff.mpr (by omega))
theorem box_mul {u r : Int} (h0 : 0 ≤ u) (hu : u ≠ 0) (r0 : 0 ≤ r) (r1 : r < 17) : InBox u ((r - 8) * u) := by
  refine ⟨fun e => (hu e).elim, fun _ => ?_⟩
  have h1 : (r - 8) * u = r * u - 8 * u := by rw [Int.sub_mul]
  have h2 : 0 ≤ r * u := Int.mul_nonneg r0 h0
  have h3 : r * u ≤ 16 * u := Int.mul_le_mul_of_nonneg_right (by omega) h0
  omega

theorem row_ok (G : Gd w b) {t : Addr} {n u : Int} {k : Kd} {Q : AV → St → Prop} (T : Tape st t n) (hn : n + 10 ≤ 2 ^ 30) (hk : k ≠ .z) (u0 : 0 ≤ u) (u1 : u ≤ 1000000)
    (h : ∀ (r : Row) st', r.kd = k → (∀ p ∈ r.pts, Box u p) → Tape st' t (n + 6) → Ch t st st' → Q r.av st') : CodeOk w b 2 (.ref 266) [.obj t, .str k.str, .int u] st Q := by
  ks_step "fill"
  refine' CODE_def G (["tape", "word", "unit"] : List Str) ?ho ?hcd ?hb ?hl ?_ ?hn ?hk ?hco ?hgen
  ks_step "def"
  ks_step "r"
  intro F nF
  have hFt : F ≠ t := by obtain ⟨l, ds, k, T⟩ := T; exact (ne_of T.et nF).symm
  ks_step "r"
  refine ES_ForE ?_
  have key : ∀ N : Nat, (N = 2 ∨ N = 6) → (k = .c → N = 6) → True := fun _ _ _ => trivial
  cases k with
  | z => exact (hk rfl).elim
  | m =>
    ks_step "r"
    refine C_range1 ?_
    ks_step "r"
    refine ⟨_, fun i ρ' st' => ∃ nums : List Int, ρ' "tape" = some (.obj t) ∧ ρ' "unit" = some (.int u) ∧ ρ' "found" = some (.obj F) ∧ st' F = some (.list (.str Kd.m.str :: nums.map .int)) ∧ nums.length = i ∧ (∀ x ∈ nums, InBox u x) ∧ Tape st' t (n + i) ∧ Ch t st st',
      fun _ _ _ _ => items_rng (n := 2) (by decide) (by decide) rfl, ⟨[], rfl, rfl, rfl, upd_self, rfl, (fun _ h => nomatch h), by simpa using T.ext (Ext.new nF), (Ext.new nF).ch t⟩, ?_, ?_, letGo_name⟩
    · rintro i y ρ' st' hy ⟨nums, h1, h2, h3, eF, hl, hb, T, hc⟩
      have hi : i < 2 := by have := (List.getElem?_eq_some_iff.mp hy).1; simpa using this
      refine ⟨_, asg_name, ?_⟩
      intro Qn hQn
      ks_step "r"
      refine ⟨_, _, rfl, eF, ?_⟩
      ks_step "r"
      refine ite_bb (fun c => ?_) fun c => ?_
      · have c : u = 0 := by simpa [AV.beq, AV.py, PyData.eqv] using c
        ks_step "r"
        refine CodeOk.at (draw_ok G T (by omega) (by decide) (by decide) fun r st₂ r0 r1 T₂ c₂ => ?_)
        ks_step "r"
        have eF₂ := c₂ _ _ hFt eF
        refine ⟨_, eF₂, by simp [sizeLine]; omega, ?_⟩
        ks_step "r"
        refine ⟨nums ++ [r], h1, h2, h3, by rw [upd_self]; simp, by simp [hl], ?_, ?_, (hc.trans c₂).mut nF⟩
        · intro x hx
          rcases List.mem_append.mp hx with hx | hx
          · exact hb x hx
          · rw [List.mem_singleton] at hx; subst hx; exact ⟨fun _ => ⟨r0, by omega⟩, fun e => (e c).elim⟩
        · refine Tape.le (T₂.mut hFt eF₂ fun ds e => ?_) (by push_cast; omega)
          cases ds <;> cases e
      · have c : u ≠ 0 := by simpa [AV.beq, AV.py, PyData.eqv] using c
        ks_step "r"
        refine CodeOk.at (draw_ok G T (by omega) (by decide) (by decide) fun r st₂ r0 r1 T₂ c₂ => ?_)
        ks_step "r"
        refine BIN_mul (mulOk u0 u1) ?_
        ks_step "r"
        have eF₂ := c₂ _ _ hFt eF
        refine ⟨_, eF₂, by simp [sizeLine]; omega, ?_⟩
        ks_step "r"
        refine ⟨nums ++ [(r - 8) * u], h1, h2, h3, by rw [upd_self]; simp, by simp [hl], ?_, ?_, (hc.trans c₂).mut nF⟩
        · intro x hx
          rcases List.mem_append.mp hx with hx | hx
          · exact hb x hx
          · rw [List.mem_singleton] at hx; subst hx; exact box_mul u0 c r0 r1
        · refine Tape.le (T₂.mut hFt eF₂ fun ds e => ?_) (by push_cast; omega)
          cases ds <;> cases e
    · rintro ρ' st' ⟨nums, h1, h2, h3, eF, hl, hb, T, hc⟩
      obtain ⟨x, y, rfl⟩ : ∃ x y, nums = [x, y] := by
        match nums, hl with
        | [x, y], _ => exact ⟨x, y, rfl⟩
      ks_step "r"
      refine C_tuple eF (by simp [sizeLine]) ?_
      ks_step "r"
      exact h (Row.m (x, y)) st' rfl (fun p hp => by simp [Row.pts] at hp; subst hp; exact ⟨hb x (by simp), hb y (by simp)⟩) (T.le (by simp <;> omega)) hc
  | l =>
    ks_step "r"
    refine C_range1 ?_
    ks_step "r"
    refine ⟨_, fun i ρ' st' => ∃ nums : List Int, ρ' "tape" = some (.obj t) ∧ ρ' "unit" = some (.int u) ∧ ρ' "found" = some (.obj F) ∧ st' F = some (.list (.str Kd.l.str :: nums.map .int)) ∧ nums.length = i ∧ (∀ x ∈ nums, InBox u x) ∧ Tape st' t (n + i) ∧ Ch t st st',
      fun _ _ _ _ => items_rng (n := 2) (by decide) (by decide) rfl, ⟨[], rfl, rfl, rfl, upd_self, rfl, (fun _ h => nomatch h), by simpa using T.ext (Ext.new nF), (Ext.new nF).ch t⟩, ?_, ?_, letGo_name⟩
    · rintro i y ρ' st' hy ⟨nums, h1, h2, h3, eF, hl, hb, T, hc⟩
      have hi : i < 2 := by have := (List.getElem?_eq_some_iff.mp hy).1; simpa using this
      refine ⟨_, asg_name, ?_⟩
      intro Qn hQn
      ks_step "r"
      refine ⟨_, _, rfl, eF, ?_⟩
      ks_step "r"
      refine ite_bb (fun c => ?_) fun c => ?_
      · have c : u = 0 := by simpa [AV.beq, AV.py, PyData.eqv] using c
        ks_step "r"
        refine CodeOk.at (draw_ok G T (by omega) (by decide) (by decide) fun r st₂ r0 r1 T₂ c₂ => ?_)
        ks_step "r"
        have eF₂ := c₂ _ _ hFt eF
        refine ⟨_, eF₂, by simp [sizeLine]; omega, ?_⟩
        ks_step "r"
        refine ⟨nums ++ [r], h1, h2, h3, by rw [upd_self]; simp, by simp [hl], ?_, ?_, (hc.trans c₂).mut nF⟩
        · intro x hx
          rcases List.mem_append.mp hx with hx | hx
          · exact hb x hx
          · rw [List.mem_singleton] at hx; subst hx; exact ⟨fun _ => ⟨r0, by omega⟩, fun e => (e c).elim⟩
        · refine Tape.le (T₂.mut hFt eF₂ fun ds e => ?_) (by push_cast; omega)
          cases ds <;> cases e
      · have c : u ≠ 0 := by simpa [AV.beq, AV.py, PyData.eqv] using c
        ks_step "r"
        refine CodeOk.at (draw_ok G T (by omega) (by decide) (by decide) fun r st₂ r0 r1 T₂ c₂ => ?_)
        ks_step "r"
        refine BIN_mul (mulOk u0 u1) ?_
        ks_step "r"
        have eF₂ := c₂ _ _ hFt eF
        refine ⟨_, eF₂, by simp [sizeLine]; omega, ?_⟩
        ks_step "r"
        refine ⟨nums ++ [(r - 8) * u], h1, h2, h3, by rw [upd_self]; simp, by simp [hl], ?_, ?_, (hc.trans c₂).mut nF⟩
        · intro x hx
          rcases List.mem_append.mp hx with hx | hx
          · exact hb x hx
          · rw [List.mem_singleton] at hx; subst hx; exact box_mul u0 c r0 r1
        · refine Tape.le (T₂.mut hFt eF₂ fun ds e => ?_) (by push_cast; omega)
          cases ds <;> cases e
    · rintro ρ' st' ⟨nums, h1, h2, h3, eF, hl, hb, T, hc⟩
      obtain ⟨x, y, rfl⟩ : ∃ x y, nums = [x, y] := by
        match nums, hl with
        | [x, y], _ => exact ⟨x, y, rfl⟩
      ks_step "r"
      refine C_tuple eF (by simp [sizeLine]) ?_
      ks_step "r"
      exact h (Row.l (x, y)) st' rfl (fun p hp => by simp [Row.pts] at hp; subst hp; exact ⟨hb x (by simp), hb y (by simp)⟩) (T.le (by simp <;> omega)) hc
  | c =>
    ks_step "r"
    refine C_range1 ?_
    ks_step "r"
    refine ⟨_, fun i ρ' st' => ∃ nums : List Int, ρ' "tape" = some (.obj t) ∧ ρ' "unit" = some (.int u) ∧ ρ' "found" = some (.obj F) ∧ st' F = some (.list (.str Kd.c.str :: nums.map .int)) ∧ nums.length = i ∧ (∀ x ∈ nums, InBox u x) ∧ Tape st' t (n + i) ∧ Ch t st st',
      fun _ _ _ _ => items_rng (n := 6) (by decide) (by decide) rfl, ⟨[], rfl, rfl, rfl, upd_self, rfl, (fun _ h => nomatch h), by simpa using T.ext (Ext.new nF), (Ext.new nF).ch t⟩, ?_, ?_, letGo_name⟩
    · rintro i y ρ' st' hy ⟨nums, h1, h2, h3, eF, hl, hb, T, hc⟩
      have hi : i < 6 := by have := (List.getElem?_eq_some_iff.mp hy).1; simpa using this
      refine ⟨_, asg_name, ?_⟩
      intro Qn hQn
      ks_step "r"
      refine ⟨_, _, rfl, eF, ?_⟩
      ks_step "r"
      refine ite_bb (fun c => ?_) fun c => ?_
      · have c : u = 0 := by simpa [AV.beq, AV.py, PyData.eqv] using c
        ks_step "r"
        refine CodeOk.at (draw_ok G T (by omega) (by decide) (by decide) fun r st₂ r0 r1 T₂ c₂ => ?_)
        ks_step "r"
        have eF₂ := c₂ _ _ hFt eF
        refine ⟨_, eF₂, by simp [sizeLine]; omega, ?_⟩
        ks_step "r"
        refine ⟨nums ++ [r], h1, h2, h3, by rw [upd_self]; simp, by simp [hl], ?_, ?_, (hc.trans c₂).mut nF⟩
        · intro x hx
          rcases List.mem_append.mp hx with hx | hx
          · exact hb x hx
          · rw [List.mem_singleton] at hx; subst hx; exact ⟨fun _ => ⟨r0, by omega⟩, fun e => (e c).elim⟩
        · refine Tape.le (T₂.mut hFt eF₂ fun ds e => ?_) (by push_cast; omega)
          cases ds <;> cases e
      · have c : u ≠ 0 := by simpa [AV.beq, AV.py, PyData.eqv] using c
        ks_step "r"
        refine CodeOk.at (draw_ok G T (by omega) (by decide) (by decide) fun r st₂ r0 r1 T₂ c₂ => ?_)
        ks_step "r"
        refine BIN_mul (mulOk u0 u1) ?_
        ks_step "r"
        have eF₂ := c₂ _ _ hFt eF
        refine ⟨_, eF₂, by simp [sizeLine]; omega, ?_⟩
        ks_step "r"
        refine ⟨nums ++ [(r - 8) * u], h1, h2, h3, by rw [upd_self]; simp, by simp [hl], ?_, ?_, (hc.trans c₂).mut nF⟩
        · intro x hx
          rcases List.mem_append.mp hx with hx | hx
          · exact hb x hx
          · rw [List.mem_singleton] at hx; subst hx; exact box_mul u0 c r0 r1
        · refine Tape.le (T₂.mut hFt eF₂ fun ds e => ?_) (by push_cast; omega)
          cases ds <;> cases e
    · rintro ρ' st' ⟨nums, h1, h2, h3, eF, hl, hb, T, hc⟩
      obtain ⟨x1, y1, x2, y2, x3, y3, rfl⟩ : ∃ x1 y1 x2 y2 x3 y3, nums = [x1, y1, x2, y2, x3, y3] := by
        match nums, hl with
        | [x1, y1, x2, y2, x3, y3], _ => exact ⟨x1, y1, x2, y2, x3, y3, rfl⟩
      ks_step "r"
      refine C_tuple eF (by simp [sizeLine]) ?_
      ks_step "r"
      refine h (Row.c (x1, y1) (x2, y2) (x3, y3)) st' rfl (fun p hp => ?_) (T.le (by simp)) hc
      simp only [Row.pts, List.mem_cons, List.not_mem_nil, or_false] at hp
      rcases hp with rfl | rfl | rfl
      · exact ⟨hb _ (by simp), hb _ (by simp)⟩
      · exact ⟨hb _ (by simp), hb _ (by simp)⟩
      · exact ⟨hb _ (by simp), hb _ (by simp)⟩
end

/-! C14 -/
section

variable {w : World} {b : Heap} {lev : Nat} {sc : Scope} {ρ : Ren} {st : St}
@[reducible] noncomputable def kAv (k : Kd) : AV := .str k.str
noncomputable def zRows (z : Bool) : List Row := if z then [.z] else []
structure Lot where
  p : Pt
  body : List Row
  z : Bool
noncomputable def Lot.rows (l : Lot) : List Row := .m l.p :: l.body ++ zRows l.z
noncomputable def Bodied (r : Row) : Prop := r.kd = .l ∨ r.kd = .c
theorem Ch.of {t a : Addr} {st st' : St} (c : Ch t st st') {o : AObj} (e : st a = some o) (n : a ≠ t) : st' a = some o := c a o n e
theorem Tape.alive {st : St} {t : Addr} {n : Int} (T : Tape st t n) : ∃ o, st t = some o := by obtain ⟨l, ds, k, T⟩ := T; exact ⟨_, T.et⟩
theorem Ch.none {t a : Addr} {st st' : St} (c : Ch t st st') (e : st' a = none) (ht : ∃ o, st' t = some o) : st a = none := by
  cases hc : st a with
  | none => rfl
  | some o =>
    by_cases h : a = t
    · subst h; obtain ⟨o', ho⟩ := ht; rw [ho] at e; cases e
    · rw [c a o h hc] at e; cases e

theorem upd_none_inv {st : St} {a e : Addr} {x : AObj} (n : upd st e x a = none) (ne : st e = none) : st a = none := by
  by_cases h : a = e
  · subst h; exact ne
  · rw [upd_ne h] at n; exact n
theorem subpath_ok (G : Gd w b) {t W : Addr} {n u : Int} {ks : List Kd} {Q : AV → St → Prop} (T : Tape st t n) (eW : st W = some (.list (ks.map kAv))) (hks : ∀ k ∈ ks, k = .l ∨ k = .c) (hl : ks.length ≤ 10) (hn : n + 100 ≤ 2 ^ 30) (u0 : 0 ≤ u) (u1 : u ≤ 1000000)
    (h : ∀ A (lt : Lot) st', lt.body.map Row.kd = ks → (∀ r ∈ lt.rows, ∀ p ∈ r.pts, Box u p) → st A = none → st' A = some (.list (lt.rows.map Row.av)) → Tape st' t (n + 70) → Ch t st st' → Q (.obj A) st') : CodeOk w b 3 (.ref 271) [.obj t, .obj W, .int u] st Q := by
  ks_step "fill"
  refine' CODE_def G (["tape", "words", "unit"] : List Str) ?ho ?hcd ?hb ?hl ?_ ?hn ?hk ?hco ?hgen
  ks_step "def"
  ks_step "s"
  refine ES_AssignCompE ?_
  ks_step "r"
  intro a na
  ks_step "r"
  refine BIN_addL upd_self (upd_old na eW) (by simp [sizeLine]; omega) fun C nC => ?_
  have eC : upd (upd st a (.list [.str "m"])) C (.list ([.str "m"] ++ ks.map kAv)) C = some (.list ((.m :: ks).map kAv)) := upd_self
  have hx := ((Ext.new (o := .list [.str "m"]) na).trans (Ext.new (o := .list ([.str "m"] ++ ks.map kAv)) nC))
  have hCt : C ≠ t := by obtain ⟨o, e⟩ := T.alive; exact (ne_of (upd_old na e) nC).symm
  have T₁ := T.ext hx
  have c₁ := hx.ch t
  generalize upd (upd st a (.list [.str "m"])) C (.list ([.str "m"] ++ ks.map kAv)) = st₁ at *
  clear na nC hx
  refine ⟨(Kd.m :: ks).map kAv, fun i ys st' => ∃ rs : List Row, ys = rs.map Row.av ∧ rs.map Row.kd = (Kd.m :: ks).take i ∧ (∀ r ∈ rs, ∀ p ∈ r.pts, Box u p) ∧ Tape st' t (n + 6 * i) ∧ Ch t st st' ∧ Ch t st₁ st',
    fun i ys st' hJ => .list (hJ.choose_spec.2.2.2.2.2.of eC hCt), ⟨[], rfl, rfl, (fun _ h => nomatch h), by simpa using T₁, c₁, Ch.refl⟩, by simp [sizeLine]; omega, ?_, ?_⟩
  · rintro i y ys st' hy ⟨rs, rfl, hrk, hbx, T₂, c₂, c₃⟩
    have hi : i < ks.length + 1 := by have := (List.getElem?_eq_some_iff.mp hy).1; simpa using this
    rw [List.getElem?_map] at hy
    cases hk : (Kd.m :: ks)[i]? with
    | none => rw [hk] at hy; cases hy
    | some k =>
      rw [hk] at hy; cases hy
      have hkz : k ≠ .z := by
        have := List.mem_of_getElem? hk
        rcases List.mem_cons.mp this with rfl | hm
        · decide
        · rcases hks k hm with rfl | rfl <;> decide
      refine CT_nil (ite_tt rfl ?_)
      ks_step "r"
      refine CodeOk.at (row_ok (k := k) G T₂ (by omega) hkz u0 u1 fun r st₃ hr hb T₃ c₄ => ?_)
      ks_step "r"
      refine ⟨rs ++ [r], by simp, by rw [List.map_append, hrk, List.take_add_one, hk]; simp [hr], ?_, T₃.le (by push_cast; omega), c₂.trans c₄, c₃.trans c₄⟩
      intro r' hr'
      rcases List.mem_append.mp hr' with hr' | hr'
      · exact hbx r' hr'
      · rw [List.mem_singleton] at hr'; subst hr'; exact hb
  · rintro ys st' ⟨rs, rfl, hrk, hbx, T₂, c₂, -⟩ d nd
    rw [List.length_map, List.take_length] at hrk
    have hrl : rs.length = ks.length + 1 := by have := congrArg List.length hrk; simpa using this
    rw [List.length_map, List.length_cons] at T₂
    obtain ⟨p, body, rfl⟩ : ∃ p body, rs = .m p :: body := by
      cases rs with
      | nil => cases hrk
      | cons r body =>
        have : r.kd = .m := by simpa using (List.cons.inj hrk).1
        cases r <;> first | exact ⟨_, _, rfl⟩ | cases this
    have hbk : body.map Row.kd = ks := by simpa using (List.cons.inj hrk).2
    have hdt : d ≠ t := by obtain ⟨o, e⟩ := T₂.alive; exact (ne_of e nd).symm
    have ed : upd st' d (.list ((Row.m p :: body).map Row.av)) d = _ := upd_self
    replace T₂ := T₂.ext (Ext.new (o := .list ((Row.m p :: body).map Row.av)) nd)
    replace c₂ := c₂.trans ((Ext.new (o := .list ((Row.m p :: body).map Row.av)) nd).ch t)
    generalize upd st' d (.list ((Row.m p :: body).map Row.av)) = st₂ at *
    clear nd
    ks_step "r"
    refine CodeOk.at (draw_ok G T₂ (by push_cast; omega) (by decide) (by decide) fun r st₃ r0 r1 T₃ c₃ => ?_)
    have ed₃ := c₃.of ed hdt
    ks_step "r"
    refine ite_bb (fun c => ?_) fun c => ?_
    · ks_step "r"
      intro e ne
      ks_step "r"
      refine BIN_addL (upd_old ne ed₃) upd_self (by simp [sizeLine] at *; omega) fun g ng => ?_
      ks_step "r"
      have c₄ := (c₂.trans c₃).trans (((Ext.new (o := .list [AV.tup [AV.str "z"]]) ne).trans (Ext.new (o := .list ((Row.m p :: body).map Row.av ++ [AV.tup [AV.str "z"]])) ng)).ch t)
      have T₄ := T₃.ext ((Ext.new (o := .list [AV.tup [AV.str "z"]]) ne).trans (Ext.new (o := .list ((Row.m p :: body).map Row.av ++ [AV.tup [AV.str "z"]])) ng))
      refine h g ⟨p, body, true⟩ _ hbk ?_ ((c₂.trans c₃).none (upd_none_inv ng ne) T₃.alive) (by rw [upd_self]; simp [Lot.rows, zRows]) (T₄.le (by push_cast; omega)) c₄
      intro r hr q hq
      simp only [Lot.rows, zRows, if_true] at hr
      rcases List.mem_append.mp hr with hr | hr
      · exact hbx r hr q hq
      · rw [List.mem_singleton] at hr; subst hr; cases hq
    · ks_step "r"
      intro e ne
      ks_step "r"
      refine BIN_addL (upd_old ne ed₃) upd_self (by simp [sizeLine] at *; omega) fun g ng => ?_
      ks_step "r"
      have c₄ := (c₂.trans c₃).trans (((Ext.new (o := .list []) ne).trans (Ext.new (o := .list ((Row.m p :: body).map Row.av ++ [])) ng)).ch t)
      have T₄ := T₃.ext ((Ext.new (o := .list []) ne).trans (Ext.new (o := .list ((Row.m p :: body).map Row.av ++ [])) ng))
      refine h g ⟨p, body, false⟩ _ hbk ?_ ((c₂.trans c₃).none (upd_none_inv ng ne) T₃.alive) (by rw [upd_self]; simp [Lot.rows, zRows]) (T₄.le (by push_cast; omega)) c₄
      intro r hr q hq
      simp only [Lot.rows, zRows, Bool.false_eq_true, if_false, List.append_nil] at hr
      exact hbx r hr q hq
end

/-! C15 -/
section

variable {w : World} {b : Heap} {lev : Nat} {sc : Scope} {ρ : Ren} {st : St}
structure Drawn (u : Int) (lots : List Lot) : Prop where
  ne : lots ≠ []
  body : ∀ l ∈ lots, l.body ≠ [] ∧ ∀ r ∈ l.body, r.kd = .l ∨ r.kd = .c
  box : ∀ l ∈ lots, ∀ r ∈ l.rows, ∀ p ∈ r.pts, Box u p
  cnt : (lots.flatMap Lot.body).length ≤ 3
  one : u = 0 → (lots.flatMap Lot.body).length ≤ 1
  two : lots.length ≤ 2
theorem body_of {l : Lot} {ks : List Kd} (h : l.body.map Row.kd = ks) (hk : ∀ k ∈ ks, k = .l ∨ k = .c) (hn : ks ≠ []) : l.body ≠ [] ∧ ∀ r ∈ l.body, r.kd = .l ∨ r.kd = .c := by
  refine ⟨fun e => hn (by rw [← h, e]; rfl), fun r hr => hk _ (by rw [← h]; exact List.mem_map_of_mem hr)⟩
theorem body_len {l : Lot} {ks : List Kd} (h : l.body.map Row.kd = ks) : l.body.length = ks.length := by rw [← h, List.length_map]

theorem drawn_ok (G : Gd w b) {t : Addr} {n u : Int} {Q : AV → St → Prop} (T : Tape st t n) (hn : n + 1000 ≤ 2 ^ 30) (u0 : 0 ≤ u) (u1 : u ≤ 1000000)
    (h : ∀ A lots st', Drawn u lots → st' A = some (.list ((lots.flatMap Lot.rows).map Row.av)) → A ≠ t → st A = none → Tape st' t (n + 200) → Ch t st st' → Q (.obj A) st') : CodeOk w b 4 (.ref 276) [.obj t, .int u] st Q := by
  ks_step "fill"
  refine' CODE_def G (["tape", "unit"] : List Str) ?ho ?hcd ?hb ?hl ?_ ?hn ?hk ?hco ?hgen
  ks_step "def"
  ks_step "r"
  refine ite_bb (fun c => ?_) fun c => ?_
  · have c : u = 0 := by simpa [AV.beq, AV.py, PyData.eqv] using c
    ks_step "r"
    intro a na
    ks_step "r"
    refine CodeOk.at (subpath_ok (ks := [.c]) G (T.ext (Ext.new na)) upd_self (by simp) (by simp) (by omega) u0 u1 fun A lt st' hb hbx nA eA T' c' => ?_)
    ks_step "r"
    have hl := body_len hb
    refine h A [lt] st' ⟨by simp, fun l hl => by simp at hl; subst hl; exact body_of hb (by simp) (by simp), fun l hl => by simp at hl; subst hl; exact hbx, by simp [hl], fun _ => by simp [hl], by simp⟩ (by simpa using eA) ?_ (upd_none_inv nA na) (T'.le (by omega)) (((Ext.new na).ch t).trans c')
    obtain ⟨o, e⟩ := T.alive
    exact (ne_of (upd_old na e) nA).symm
  · have c : u ≠ 0 := by simpa [AV.beq, AV.py, PyData.eqv] using c
    ks_step "s"
    ks_step "s"
    refine ES_AssignCompE ?_
    ks_step "r"
    refine CodeOk.at (draw_ok G T (by omega) (by decide) (by decide) fun r st₁ r0 r1 T₁ c₁ => ?_)
    ks_step "r"
    refine C_range1 ?_
    ks_step "r"
    obtain ⟨N, hN, hit⟩ : ∃ N : Nat, (N = 1 ∨ N = 2) ∧ ∀ st', ItemsOf (.rng 0 (1 + r) 1) st' ((List.range N).map fun i : Nat => AV.int (0 + (i : Int) * 1)) := by
      have : r = 0 ∨ r = 1 := by omega
      rcases this with rfl | rfl
      · exact ⟨1, .inl rfl, fun _ => items_rng (n := 1) (by decide) (by decide) rfl⟩
      · exact ⟨2, .inr rfl, fun _ => items_rng (n := 2) (by decide) (by decide) rfl⟩
    refine ⟨_, fun i ys st' => ∃ ks : List Kd, ys = ks.map kAv ∧ ks.length = i ∧ (∀ k ∈ ks, k = .l ∨ k = .c) ∧ Tape st' t (n + 1 + i) ∧ Ch t st st', fun _ _ st' _ => hit st', ⟨[], rfl, rfl, (fun _ h => nomatch h), by simpa using T₁, c₁⟩, by simp [sizeLine]; omega, ?_, ?_⟩
    · rintro i y ys st' hy ⟨ks, rfl, hkl, hk, T₂, c₂⟩
      have hi : i < N := by have := (List.getElem?_eq_some_iff.mp hy).1; simpa using this
      refine CT_nil (ite_tt rfl ?_)
      ks_step "r"
      refine CodeOk.at (draw_ok G T₂ (by omega) (by decide) (by decide) fun r3 st₃ r0 r1 T₃ c₃ => ?_)
      ks_step "r"
      have r012 : r3 = 0 ∨ r3 = 1 ∨ r3 = 2 := by omega
      obtain ⟨k3, hk3, hg⟩ : ∃ k3 : Kd, (k3 = .l ∨ k3 = .c) ∧ pyIdx [.str "l", .str "c", .str "c"] r3 = some (kAv k3) := by
        rcases r012 with rfl | rfl | rfl
        · exact ⟨.l, .inl rfl, rfl⟩
        · exact ⟨.c, .inr rfl, rfl⟩
        · exact ⟨.c, .inr rfl, rfl⟩
      refine GETS_t ⟨_, hg, ?_⟩ (by omega) (by omega)
      ks_step "r"
      refine ⟨ks ++ [k3], by simp, by simp [hkl], ?_, T₃.le (by push_cast; omega), c₂.trans c₃⟩
      intro k hk'
      rcases List.mem_append.mp hk' with hk' | hk'
      · exact hk k hk'
      · rw [List.mem_singleton] at hk'; subst hk'; exact hk3
    · rintro ys st' ⟨ks, rfl, hkl, hk, T₂, c₂⟩ W nW
      rw [List.length_map, List.length_range] at hkl T₂
      have hkn : ks ≠ [] := by rintro rfl; simp at hkl; omega
      have T₂' := T₂.ext (Ext.new (o := .list (ks.map kAv)) nW)
      have c₂' := c₂.trans ((Ext.new (o := .list (ks.map kAv)) nW).ch t)
      have eW : upd st' W (.list (ks.map kAv)) W = _ := upd_self
      generalize upd st' W (.list (ks.map kAv)) = st₂ at *
      clear nW
      ks_step "r"
      refine CodeOk.at (subpath_ok (ks := ks) G T₂' eW hk (by omega) (by omega) u0 u1 fun A lt st₃ hb hbx nA eA T₃ c₃ => ?_)
      have hAt : A ≠ t := by obtain ⟨o, e⟩ := T₂'.alive; exact (ne_of e nA).symm
      have nA' := c₂'.none nA T₂'.alive
      ks_step "r"
      refine CodeOk.at (draw_ok G T₃ (by omega) (by decide) (by decide) fun r2 st₄ r0 r1 T₄ c₄ => ?_)
      have eA₄ := c₄.of eA hAt
      ks_step "r"
      have hlb := body_len hb
      refine ite_bb (fun cc => ?_) fun cc => ?_
      · ks_step "r"
        refine CodeOk.at (draw_ok G T₄ (by omega) (by decide) (by decide) fun r3 st₅ r0 r1 T₅ c₅ => ?_)
        ks_step "r"
        have r012 : r3 = 0 ∨ r3 = 1 ∨ r3 = 2 := by omega
        obtain ⟨k3, hk3, hg⟩ : ∃ k3 : Kd, (k3 = .l ∨ k3 = .c) ∧ pyIdx [.str "l", .str "c", .str "c"] r3 = some (kAv k3) := by
          rcases r012 with rfl | rfl | rfl
          · exact ⟨.l, .inl rfl, rfl⟩
          · exact ⟨.c, .inr rfl, rfl⟩
          · exact ⟨.c, .inr rfl, rfl⟩
        refine GETS_t ⟨_, hg, ?_⟩ (by omega) (by omega)
        ks_step "r"
        intro V nV
        ks_step "r"
        refine CodeOk.at (subpath_ok (ks := [k3]) G (T₅.ext (Ext.new nV)) upd_self (by simpa using hk3) (by simp) (by omega) u0 u1 fun B lt₂ st₆ hb₂ hbx₂ nB eB T₆ c₆ => ?_)
        have eA₆ := ((c₅.trans ((Ext.new nV).ch t)).trans c₆).of eA₄ hAt
        ks_step "r"
        have hlb₂ := body_len hb₂
        have l1 : lt.rows.length ≤ 10 := by simp [Lot.rows, zRows, hlb]; split <;> simp <;> omega
        have l2 : lt₂.rows.length ≤ 10 := by simp [Lot.rows, zRows, hlb₂]; split <;> simp
        refine BIN_addL eA₆ eB (by simp [sizeLine]; omega) fun C nC => ?_
        ks_step "r"
        have cc' := ((((c₂'.trans c₃).trans c₄).trans c₅).trans ((Ext.new (o := .list [kAv k3]) nV).ch t)).trans c₆
        refine h C [lt, lt₂] _ ⟨by simp, ?_, ?_, by simp [hlb, hlb₂]; omega, fun e => (c e).elim, by simp⟩ (by rw [upd_self]; simp) ?_ (cc'.none nC T₆.alive) ((T₆.ext (Ext.new nC)).le (by omega)) (cc'.trans ((Ext.new nC).ch t))
        · intro l hl
          rcases List.mem_cons.mp hl with rfl | hl
          · exact body_of hb hk hkn
          · rw [List.mem_singleton] at hl; subst hl; exact body_of hb₂ (by simpa using hk3) (by simp)
        · intro l hl
          rcases List.mem_cons.mp hl with rfl | hl
          · exact hbx
          · rw [List.mem_singleton] at hl; subst hl; exact hbx₂
        · obtain ⟨o, e⟩ := T₆.alive
          exact (ne_of e nC).symm
      · ks_step "r"
        exact h A [lt] st₄ ⟨by simp, fun l hl => by simp at hl; subst hl; exact body_of hb hk hkn, fun l hl => by simp at hl; subst hl; exact hbx, by simp [hlb]; omega, fun e => (c e).elim, by simp⟩ (by simpa using eA₄) hAt nA' (T₄.le (by omega)) ((c₂'.trans c₃).trans c₄)
end

/-! C16 -/
section

variable {w : World} {b : Heap} {lev : Nat} {sc : Scope} {ρ : Ren} {st : St}
noncomputable def rest : List Row → List Row → List Row
  | fs, [] => fs
  | [], _ :: _ => []
  | f :: fs, r :: ms => if f = r then rest fs ms else rest (f :: fs) ms
theorem rest_nil (ms : List Row) : rest [] ms = [] := by cases ms <;> rfl
theorem av_inj {r s : Row} (h : r.av = s.av) : r = s := by
  cases r <;> cases s <;> simp [Row.av] at h ⊢
  · exact Prod.ext h.1 h.2
  · exact absurd h.1 (by decide +kernel)
  · exact absurd h.1 (by decide +kernel)
  · exact Prod.ext h.1 h.2
  · exact ⟨Prod.ext h.1 h.2.1, Prod.ext h.2.2.1 h.2.2.2.1, Prod.ext h.2.2.2.2.1 h.2.2.2.2.2⟩
theorem beq_row (r s : Row) : AV.beq r.av s.av = decide (r = s) := by
  have := AV.beq_iff (row_dat r) (row_dat s)
  by_cases e : r = s
  · subst e; rw [decide_eq_true rfl]; exact this.mpr rfl
  · rw [decide_eq_false e, Bool.eq_false_iff]
    exact fun h => e (av_inj (this.mp h))

theorem lies_ok (G : Gd w b) {a c : Addr} {few many : List Row} {Q : AV → St → Prop} (ea : st a = some (.list (few.map Row.av))) (ec : st c = some (.list (many.map Row.av))) (hz : few.length ≤ 1500) (h : Q (.bool (rest few many).isEmpty) st) : CodeOk w b 1 (.ref 312) [.obj a, .obj c] st Q := by
  ks_step "fill"
  refine' CODE_def G (["few", "many"] : List Str) ?ho ?hcd ?hb ?hl ?_ ?hn ?hk ?hco ?hgen
  ks_step "def"
  ks_step "r"
  refine ES_For (.obj c) (many.map Row.av) (fun i ρ' st' => st' = st ∧ ∃ k : Nat, ρ' "at" = some (.int k) ∧ ρ' "few" = some (.obj a) ∧ k ≤ few.length ∧ rest (few.drop k) (many.drop i) = rest few many) ?_ (hg := letGo_name)
  ks_step "r"
  refine ⟨rfl, ?_, ⟨rfl, 0, rfl, rfl, Nat.zero_le _, rfl⟩, ?_, ?_⟩
  · rintro i ρ' st' ⟨rfl, -⟩
    exact .list ec
  · rintro i y ρ' st' hy ⟨rfl, k, h1, h2, hk, hr⟩
    refine ⟨_, asg_name, ?_⟩
    intro Qn hQn
    rw [List.getElem?_map] at hy
    cases hm : many[i]? with
    | none => rw [hm] at hy; cases hy
    | some r =>
      rw [hm] at hy; cases hy
      obtain ⟨hlt, hm'⟩ := List.getElem?_eq_some_iff.mp hm
      rw [List.drop_eq_getElem_cons hlt, hm'] at hr
      ks_step "r"
      refine C_len_list ea (by simp [sizeLine]; omega) ?_
      ks_step "r"
      refine ite_bb (fun cc => ?_) fun cc => ?_
      · have hkl : k < few.length := by simpa using cc
        rw [List.drop_eq_getElem_cons hkl] at hr
        ks_step "r"
        refine GETS_l ⟨_, ea, few[k].av, by simp [hkl], ?_⟩ (by omega) (by omega)
        ks_step "r"
        rw [beq_row]
        refine ite_bb (fun ce => ?_) fun ce => ?_
        · have ce : few[k] = r := by simpa using ce
          ks_step "r"
          refine ⟨rfl, k + 1, by simp; rfl, h2, hkl, ?_⟩
          rw [← hr, rest, if_pos ce]
        · have ce : few[k] ≠ r := by simpa using ce
          ks_step "r"
          refine ⟨rfl, k, h1, h2, hk, ?_⟩
          rw [← hr, rest, if_neg ce, List.drop_eq_getElem_cons hkl]
      · have hkl : few.length ≤ k := by simpa using cc
        ks_step "r"
        refine ⟨rfl, k, h1, h2, hk, ?_⟩
        rw [List.drop_of_length_le hkl] at hr ⊢
        rw [← hr, rest_nil, rest_nil]
  · rintro ρ' st' ⟨rfl, k, h1, h2, hk, hr⟩
    rw [List.length_map, List.drop_length] at hr
    ks_step "r"
    refine C_len_list ea (by simp [sizeLine]; omega) ?_
    ks_step "r"
    have e : AV.beq (.int k) (.int ((few.map Row.av).length : Int)) = (rest few many).isEmpty := by
      rw [← hr]
      have e2 : rest (few.drop k) [] = few.drop k := by cases few.drop k <;> rfl
      rw [e2, List.length_map]
      by_cases hkl : k = few.length
      · subst hkl; simp [AV.beq, AV.py, PyData.eqv]
      · have : (few.drop k).isEmpty = false := by
          rw [List.isEmpty_eq_false_iff]
          intro x
          have := congrArg List.length x
          simp at this; omega
        rw [this]
        simp [AV.beq, AV.py, PyData.eqv]; omega
    exact e ▸ h
end

/-! PL2 -/
section


noncomputable def Row.map (f : Pt → Pt) : Row → Row
  | .m p => .m (f p) | .l p => .l (f p) | .c p q r => .c (f p) (f q) (f r) | .z => .z
noncomputable def Lot.flat (fl : Int) (l : Lot) : Lot := ⟨l.p, flatFrom fl (some l.p) l.body, l.z⟩
noncomputable def Lot.map (f : Pt → Pt) (l : Lot) : Lot := ⟨f l.p, l.body.map (Row.map f), l.z⟩
noncomputable abbrev allRows (lots : List Lot) : List Row := lots.flatMap Lot.rows
noncomputable def LotOk (l : Lot) : Prop := l.body ≠ [] ∧ ∀ r ∈ l.body, r.kd = .l ∨ r.kd = .c
noncomputable def hereAfter : Option Pt → List Row → Option Pt
  | h, [] => h
  | h, .z :: rs => hereAfter h rs
  | _, .m p :: rs => hereAfter (some p) rs
  | _, .l p :: rs => hereAfter (some p) rs
  | _, .c _ _ s :: rs => hereAfter (some s) rs
theorem flat_app (fl : Int) : ∀ (as : List Row) (h : Option Pt) (bs : List Row), flatFrom fl h (as ++ bs) = flatFrom fl h as ++ flatFrom fl (hereAfter h as) bs
  | [], h, bs => rfl
  | .m p :: as, h, bs => by simp [flatFrom, hereAfter, flat_app fl as]
  | .l p :: as, h, bs => by simp [flatFrom, hereAfter, flat_app fl as]
  | .z :: as, h, bs => by simp [flatFrom, hereAfter, flat_app fl as]
  | .c p q r :: as, h, bs => by simp [flatFrom, hereAfter, flat_app fl as]
theorem flat_z (fl : Int) (h : Option Pt) (z : Bool) : flatFrom fl h (zRows z) = zRows z := by cases z <;> rfl
theorem flat_lots (fl : Int) : ∀ (lots : List Lot) (h : Option Pt), flatFrom fl h (allRows lots) = allRows (lots.map (Lot.flat fl))
  | [], h => rfl
  | l :: lots, h => by
    simp only [allRows, List.flatMap_cons, List.map_cons]
    rw [flat_app, show flatFrom fl _ (List.flatMap Lot.rows lots) = _ from flat_lots fl lots _]
    congr 1
    simp only [Lot.rows, Lot.flat, List.cons_append, flatFrom, flat_app, flat_z]
theorem body_ok : ∀ (body : List Row) (k : Kd), k ≠ .z → (∀ r ∈ body, r.kd = .l ∨ r.kd = .c) → okFrom (some k) body = true
  | [], _, _, _ => rfl
  | r :: rs, k, hk, h => by
    have hr := h r (.head _)
    simp only [okFrom, Bool.and_eq_true]
    refine ⟨?_, body_ok rs r.kd (by rcases hr with e | e <;> rw [e] <;> decide) fun x hx => h x (.tail _ hx)⟩
    cases r <;> cases k <;> simp_all [okStep, Row.kd]
theorem last_body {body : List Row} (hn : body ≠ []) (h : ∀ r ∈ body, r.kd = .l ∨ r.kd = .c) : lastKd body = some .l ∨ lastKd body = some .c := by
  rcases List.eq_nil_or_concat body with rfl | ⟨ini, r, rfl⟩
  · exact (hn rfl).elim
  · rw [List.concat_eq_append] at *
    rw [lastKd_snoc]
    rcases h r (by simp) with e | e
    · exact .inl (by rw [e])
    · exact .inr (by rw [e])
theorem ok_lots : ∀ (lots : List Lot) (last : Option Kd), last ≠ some .m → (∀ l ∈ lots, LotOk l) → okFrom last (allRows lots) = true
  | [], _, _, _ => rfl
  | l :: lots, last, hl, h => by
    obtain ⟨hn, hb⟩ := h l (.head _)
    have ih := ok_lots lots
    have hs : okStep last (.m l.p) = true := by rcases last with _ | _ | _ | _ | _ <;> first | rfl | exact (hl rfl).elim
    simp only [allRows, List.flatMap_cons, Lot.rows, List.cons_append, List.append_assoc, okFrom, hs, Bool.true_and]
    rw [okFrom_append, if_neg hn]
    have e : okFrom (some (Row.m l.p).kd) l.body = true := body_ok l.body .m (by decide) hb
    rw [e, Bool.true_and]
    have hlast := last_body hn hb
    cases hz : l.z with
    | false =>
      simp only [zRows, Bool.false_eq_true, if_false, List.nil_append]
      refine ih _ ?_ fun x hx => h x (.tail _ hx)
      rcases hlast with e | e <;> rw [e] <;> decide
    | true =>
      simp only [zRows, if_true, List.cons_append, List.nil_append, okFrom]
      rw [show okFrom (some Row.z.kd) (List.flatMap Lot.rows lots) = true from ih _ (by decide) fun x hx => h x (.tail _ hx)]
      rcases hlast with e | e <;> rw [e] <;> rfl
theorem flat_l (fl : Int) : ∀ (body : List Row) (h : Option Pt), (∀ r ∈ body, r.kd = .l ∨ r.kd = .c) → ∀ r ∈ flatFrom fl h body, ∃ p, r = .l p
  | [], _, _, r, hr => by cases hr
  | .m p :: rs, _, hb, _, _ => by rcases hb _ (.head _) with e | e <;> cases e
  | .z :: rs, _, hb, _, _ => by rcases hb _ (.head _) with e | e <;> cases e
  | .l p :: rs, h, hb, r, hr => by
    simp only [flatFrom] at hr
    rcases List.mem_cons.mp hr with rfl | hr
    · exact ⟨p, rfl⟩
    · exact flat_l fl rs _ (fun x hx => hb x (.tail _ hx)) r hr
  | .c p q s :: rs, h, hb, r, hr => by
    simp only [flatFrom] at hr
    rcases List.mem_append.mp hr with hr | hr
    · obtain ⟨x, -, rfl⟩ := List.mem_map.mp hr; exact ⟨x, rfl⟩
    · exact flat_l fl rs _ (fun x hx => hb x (.tail _ hx)) r hr
theorem flat_ne (fl : Int) (body : List Row) (h : Option Pt) (hn : body ≠ []) : flatFrom fl h body ≠ [] := by
  cases body with
  | nil => exact (hn rfl).elim
  | cons r rs =>
    cases r with
    | c p q s => simp [flatFrom, ends_ne]
    | _ => simp [flatFrom]
theorem LotOk.flat {l : Lot} (h : LotOk l) (fl : Int) : LotOk (l.flat fl) := ⟨flat_ne fl _ _ h.1, fun r hr => by obtain ⟨p, rfl⟩ := flat_l fl _ _ h.2 r hr; exact .inl rfl⟩
theorem flat_idem (fl : Int) : ∀ (rs : List Row) (h : Option Pt), (∀ r ∈ rs, r.kd ≠ .c) → flatFrom fl h rs = rs
  | [], _, _ => rfl
  | .m p :: rs, h, hb => by simp [flatFrom, flat_idem fl rs _ fun x hx => hb x (.tail _ hx)]
  | .l p :: rs, h, hb => by simp [flatFrom, flat_idem fl rs _ fun x hx => hb x (.tail _ hx)]
  | .z :: rs, h, hb => by simp [flatFrom, flat_idem fl rs _ fun x hx => hb x (.tail _ hx)]
  | .c p q s :: rs, h, hb => (hb _ (.head _) rfl).elim
theorem told_noc {fl : Int} {lots : List Lot} (h : ∀ l ∈ lots, LotOk l) : ∀ r ∈ allRows (lots.map (Lot.flat fl)), r.kd ≠ .c := by
  intro r hr
  obtain ⟨l', hl', hr⟩ := List.mem_flatMap.mp hr
  obtain ⟨l, hl, rfl⟩ := List.mem_map.mp hl'
  simp only [Lot.rows, Lot.flat] at hr
  rcases List.mem_append.mp hr with hr | hr
  · rcases List.mem_cons.mp hr with rfl | hr
    · exact fun e => by cases e
    · obtain ⟨p, rfl⟩ := flat_l fl _ _ (h l hl).2 r hr; exact fun e => by cases e
  · unfold zRows at hr; split at hr
    · rw [List.mem_singleton] at hr; subst hr; decide
    · cases hr
/-- flattened once is flattened for good -/
theorem flat_flat {fl fl' : Int} {lots : List Lot} (h : ∀ l ∈ lots, LotOk l) : flat fl' (allRows (lots.map (Lot.flat fl))) = allRows (lots.map (Lot.flat fl)) := flat_idem fl' _ _ (told_noc h)

/-! ## points -/
theorem flat_pts (fl : Int) (B : Pt → Prop) (hb : ∀ p q, B p → B q → B (half p q)) : ∀ (rs : List Row) (h : Option Pt), (∀ p, h = some p → B p) → (h = none → ∀ r ∈ rs.head?, r.kd ≠ .c ∧ r.kd ≠ .z) → (∀ r ∈ rs, ∀ p ∈ r.pts, B p) → ∀ r ∈ flatFrom fl h rs, ∀ p ∈ r.pts, B p
  | [], _, _, _, _, r, hr => by cases hr
  | .m p :: rs, h, hh, hn, ha, r, hr => by
    simp only [flatFrom] at hr
    rcases List.mem_cons.mp hr with rfl | hr
    · exact ha _ (.head _)
    · exact flat_pts fl B hb rs _ (fun x e => by cases e; exact ha _ (.head _) _ (by simp [Row.pts])) (fun e => by cases e) (fun x hx => ha x (.tail _ hx)) r hr
  | .l p :: rs, h, hh, hn, ha, r, hr => by
    simp only [flatFrom] at hr
    rcases List.mem_cons.mp hr with rfl | hr
    · exact ha _ (.head _)
    · exact flat_pts fl B hb rs _ (fun x e => by cases e; exact ha _ (.head _) _ (by simp [Row.pts])) (fun e => by cases e) (fun x hx => ha x (.tail _ hx)) r hr
  | .z :: rs, h, hh, hn, ha, r, hr => by
    simp only [flatFrom] at hr
    have hh' : h ≠ none := fun e => (hn e _ rfl).2 rfl
    rcases List.mem_cons.mp hr with rfl | hr
    · intro p hp; cases hp
    · exact flat_pts fl B hb rs _ hh (fun e => (hh' e).elim) (fun x hx => ha x (.tail _ hx)) r hr
  | .c p q s :: rs, h, hh, hn, ha, r, hr => by
    simp only [flatFrom] at hr
    have hc := ha _ (.head _)
    rcases List.mem_append.mp hr with hr | hr
    · obtain ⟨x, hx, rfl⟩ := List.mem_map.mp hr
      intro y hy
      simp only [Row.pts, List.mem_singleton] at hy; subst hy
      cases h with
      | none => exact ((hn rfl _ rfl).1 rfl).elim
      | some h => exact ends_small 10 _ fl B hb (hh h rfl) (hc p (by simp [Row.pts])) (hc q (by simp [Row.pts])) (hc s (by simp [Row.pts])) _ hx
    · exact flat_pts fl B hb rs _ (fun x e => by cases e; exact hc _ (by simp [Row.pts])) (fun e => by cases e) (fun x hx => ha x (.tail _ hx)) r hr
theorem head_lots {lots : List Lot} : ∀ r ∈ (allRows lots).head?, r.kd ≠ .c ∧ r.kd ≠ .z := by
  intro r hr
  cases lots with
  | nil => cases hr
  | cons l lots =>
    simp only [allRows, List.flatMap_cons, Lot.rows, List.cons_append, List.head?_cons, Option.mem_def, Option.some.injEq] at hr
    subst hr; exact ⟨(fun e => by cases e), (fun e => by cases e)⟩
theorem told_pts {fl : Int} {lots : List Lot} (B : Pt → Prop) (hb : ∀ p q, B p → B q → B (half p q)) (ha : ∀ r ∈ allRows lots, ∀ p ∈ r.pts, B p) : ∀ r ∈ flat fl (allRows lots), ∀ p ∈ r.pts, B p :=
  flat_pts fl B hb _ none (fun _ e => by cases e) (fun _ => head_lots) ha

theorem flatOk_of {fl : Int} {lots : List Lot} (h : ∀ l ∈ lots, LotOk l) (hs : ∀ r ∈ allRows lots, r.Small) (hf : fl.natAbs ≤ 2 ^ 40) (hz : (allRows lots).length ≤ 1500) (hz' : (allRows (lots.map (Lot.flat fl))).length ≤ 1500) : FlatOk fl (allRows lots) where
  ok := ok_lots lots none (by decide) h
  z := hz
  f := hf
  s := hs
  ok' := by rw [flat, flat_lots]; exact ok_lots _ none (by decide) fun l hl => by obtain ⟨l', hl', rfl⟩ := List.mem_map.mp hl; exact (h l' hl').flat fl
  z' := by rw [flat, flat_lots]; exact hz'

/-! ## how many rows -/
theorem flat_len (fl : Int) (E : Nat) (hE : 1 ≤ E) (B : Pt → Prop) (hq : ∀ q : Quad, B q.a → B q.b → B q.c → B q.d → (ends 10 q fl).length ≤ E) : ∀ (body : List Row) (p : Pt), B p → (∀ r ∈ body, r.kd = .l ∨ r.kd = .c) → (∀ r ∈ body, ∀ p ∈ r.pts, B p) → (flatFrom fl (some p) body).length ≤ E * body.length
  | [], _, _, _, _ => by simp [flatFrom]
  | .m _ :: _, _, _, hb, _ => by rcases hb _ (.head _) with e | e <;> cases e
  | .z :: _, _, _, hb, _ => by rcases hb _ (.head _) with e | e <;> cases e
  | .l x :: rs, p, hp, hb, ha => by
    have ih := flat_len fl E hE B hq rs x (ha _ (.head _) _ (by simp [Row.pts])) (fun r hr => hb r (.tail _ hr)) fun r hr => ha r (.tail _ hr)
    simp only [flatFrom, List.length_cons, Nat.mul_succ]; omega
  | .c x y s :: rs, p, hp, hb, ha => by
    have hc := ha _ (.head _)
    have ih := flat_len fl E hE B hq rs s (hc _ (by simp [Row.pts])) (fun r hr => hb r (.tail _ hr)) fun r hr => ha r (.tail _ hr)
    have := hq ⟨p, x, y, s⟩ hp (hc _ (by simp [Row.pts])) (hc _ (by simp [Row.pts])) (hc _ (by simp [Row.pts]))
    simp only [flatFrom, List.length_append, List.length_map, List.length_cons, Nat.mul_succ, Option.getD_some]; omega
theorem z_len (z : Bool) : (zRows z).length ≤ 1 := by cases z <;> simp [zRows]
theorem lots_len : ∀ lots : List Lot, (allRows lots).length ≤ 2 * lots.length + (lots.flatMap Lot.body).length
  | [] => by simp
  | l :: lots => by
    have ih := lots_len lots
    have := z_len l.z
    simp only [allRows, List.flatMap_cons, List.length_append, Lot.rows, List.cons_append, List.length_cons] at ih ⊢
    omega
theorem told_len (fl : Int) (E : Nat) (hE : 1 ≤ E) (B : Pt → Prop) (hq : ∀ q : Quad, B q.a → B q.b → B q.c → B q.d → (ends 10 q fl).length ≤ E) : ∀ lots : List Lot, (∀ l ∈ lots, LotOk l) → (∀ r ∈ allRows lots, ∀ p ∈ r.pts, B p) → ((lots.map (Lot.flat fl)).flatMap Lot.body).length ≤ E * (lots.flatMap Lot.body).length
  | [], _, _ => by simp
  | l :: lots, h, ha => by
    have ih := told_len fl E hE B hq lots (fun x hx => h x (.tail _ hx)) fun r hr => ha r (by simp only [allRows, List.flatMap_cons]; exact List.mem_append_right _ hr)
    have hl : ∀ r ∈ l.rows, ∀ p ∈ r.pts, B p := fun r hr => ha r (by simp only [allRows, List.flatMap_cons]; exact List.mem_append_left _ hr)
    have := flat_len fl E hE B hq l.body l.p (hl (.m l.p) (by simp [Lot.rows]) _ (by simp [Row.pts])) (h l (.head _)).2 fun r hr => hl r (by simp [Lot.rows, hr])
    simp only [List.map_cons, List.flatMap_cons, List.length_append, Nat.mul_add, Lot.flat] at ih ⊢
    omega
end

/-! C17 -/
section

variable {w : World} {b : Heap} {lev : Nat} {sc : Scope} {ρ : Ren} {st : St}
theorem ok_ls : ∀ (es : List Pt) (k : Kd), k ≠ .z → okFrom (some k) (es.map Row.l) = true
  | [], _, _ => rfl
  | e :: es, k, hk => by
    simp only [List.map_cons, okFrom, Bool.and_eq_true]
    exact ⟨by cases k <;> first | rfl | exact (hk rfl).elim, ok_ls es .l (by decide)⟩
theorem flatOk_one {h0 p q s : Pt} {fl : Int} (hf : fl.natAbs ≤ 2 ^ 40) (h0s : Small h0) (hc : (Row.c p q s).Small) : FlatOk fl [.m h0, .c p q s] where
  ok := rfl
  z := by simp
  f := hf
  s := fun r hr => by
    rcases List.mem_cons.mp hr with rfl | hr
    · intro x hx; simp only [Row.pts, List.mem_singleton] at hx; subst hx; exact h0s
    · rw [List.mem_singleton] at hr; subst hr; exact hc
  ok' := by
    have e : flat fl [.m h0, .c p q s] = .m h0 :: (ends 10 ⟨h0, p, q, s⟩ fl).map Row.l := by simp [flatFrom]
    rw [e]
    simp only [okFrom, Bool.and_eq_true]
    exact ⟨rfl, ok_ls _ .m (by decide)⟩
  z' := by
    have := ends_len 10 ⟨h0, p, q, s⟩ fl
    simp [flatFrom] at this ⊢; omega

theorem one_ok (G : Gd w b) {a : Addr} {rs : List Row} {fl : Int} {Q : AV → St → Prop} (ea : st a = some (.list (rs.map Row.av))) (F : FlatOk fl rs)
    (h : ∀ A st', Ext st st' → st A = none → st' A = some (.list ((flat fl rs).map Row.av)) → Q (.obj A) st') : CodeOk w b 9 (.ref 305) [.obj a, .int fl] st Q := by
  ks_step "fill"
  refine' CODE_def G (["rows", "flatness"] : List Str) ?ho ?hcd ?hb ?hl ?_ ?hn ?hk ?hco ?hgen
  ks_step "def"
  ks_step "r"
  intro A nA
  ks_step "r"
  have hz' := F.z'
  refine ES_For (.obj a) (rs.map Row.av) (fun i ρ' st' => ∃ fd here last, ρ' "flatness" = some (.int fl) ∧ ρ' "found" = some (.obj A) ∧ ρ' "here" = some (ptAv here) ∧ st' A = some (.list (fd.map Row.av)) ∧ Ext st st' ∧
    fd ++ flatFrom fl here (rs.drop i) = flat fl rs ∧ okFrom last (rs.drop i) = true ∧ (here = none → last = none) ∧ (∀ p, here = some p → Small p)) ?_ (hg := letGo_name)
  ks_step "r"
  refine ⟨rfl, ?_, ⟨[], none, none, rfl, rfl, rfl, upd_self, Ext.new nA, rfl, F.ok, fun _ => rfl, fun _ e => by cases e⟩, ?_, ?_⟩
  · rintro i ρ' st' ⟨fd, here, last, -, -, -, -, hx, -⟩
    exact .list (hx _ _ ea)
  · rintro i y ρ' st' hy ⟨fd, here, last, h1, h3, h4, eA, hx, hfd, hok', hhl, hsm⟩
    refine ⟨_, asg_name, ?_⟩
    intro Qn hQn
    rw [List.getElem?_map] at hy
    cases hr : rs[i]? with
    | none => rw [hr] at hy; cases hy
    | some r =>
      rw [hr] at hy; cases hy
      obtain ⟨hlt, hr'⟩ := List.getElem?_eq_some_iff.mp hr
      rw [List.drop_eq_getElem_cons hlt, hr'] at hok' hfd
      simp only [okFrom, Bool.and_eq_true] at hok'
      obtain ⟨hst, hok'⟩ := hok'
      have hrs : r.Small := F.s r (List.mem_of_getElem? hr)
      have hlen := congrArg List.length hfd
      rw [List.length_append] at hlen
      have hfdl : fd.length ≤ 1500 := by omega
      ks_step "r"
      cases r with
      | m p =>
        ks_step "r"
        refine ⟨_, _, rfl, eA, ?_⟩
        ks_step "r"
        refine ⟨_, eA, by simp [sizeLine]; omega, ?_⟩
        ks_step "r"
        refine .inr ⟨_, -2, 1, rfl, EV_neg1 ⟨rfl, rfl⟩, rfl, by decide, by simp, by simp [sizeLine], ?_⟩
        ks_step "r"
        exact ⟨fd ++ [.m p], some p, some .m, h1, h3, rfl, by rw [upd_self]; simp, hx.mut nA, by rw [← hfd]; simp [flatFrom], hok', (fun e => by cases e), (fun p' e => by cases e; exact hrs p (by simp [Row.pts]))⟩
      | l p =>
        ks_step "r"
        refine ⟨_, _, rfl, eA, ?_⟩
        ks_step "r"
        refine ⟨_, eA, by simp [sizeLine]; omega, ?_⟩
        ks_step "r"
        refine .inr ⟨_, -2, 1, rfl, EV_neg1 ⟨rfl, rfl⟩, rfl, by decide, by simp, by simp [sizeLine], ?_⟩
        ks_step "r"
        exact ⟨fd ++ [.l p], some p, some .l, h1, h3, rfl, by rw [upd_self]; simp, hx.mut nA, by rw [← hfd]; simp [flatFrom], hok', (fun e => by cases e), (fun p' e => by cases e; exact hrs p (by simp [Row.pts]))⟩
      | z =>
        ks_step "r"
        refine ⟨_, _, rfl, eA, ?_⟩
        ks_step "r"
        refine ⟨_, eA, by simp [sizeLine]; omega, ?_⟩
        ks_step "r"
        exact ⟨fd ++ [.z], here, some .z, h1, h3, rfl, by rw [upd_self]; simp, hx.mut nA, by rw [← hfd]; simp [flatFrom], hok', (fun e => by rw [hhl e] at hst; cases hst), hsm⟩
      | c p q s =>
        obtain ⟨h0, rfl⟩ : ∃ h0, here = some h0 := by
          cases here with
          | none => rw [hhl rfl] at hst; cases hst
          | some h0 => exact ⟨h0, rfl⟩
        have hdr : fd ++ ((ends 10 ⟨h0, p, q, s⟩ fl).map Row.l ++ flatFrom fl (some s) (rs.drop (i + 1))) = flat fl rs := by rw [← hfd]; simp [flatFrom]
        have hdl := congrArg List.length hdr
        simp only [List.length_append, List.length_map] at hdl
        have hel := ends_len 10 ⟨h0, p, q, s⟩ fl
        obtain ⟨ini, hini⟩ : ∃ ini, ends 10 ⟨h0, p, q, s⟩ fl = ini ++ [s] := by
          have := ends_last 10 ⟨h0, p, q, s⟩ fl
          rcases List.eq_nil_or_concat (ends 10 ⟨h0, p, q, s⟩ fl) with e | ⟨ini, x, e⟩
          · exact (ends_ne _ _ _ e).elim
          · rw [List.concat_eq_append] at e
            rw [e] at this
            simp at this
            exact ⟨ini, by rw [e, this]⟩
        have hflat : flat fl [.m h0, .c p q s] = .m h0 :: (ends 10 ⟨h0, p, q, s⟩ fl).map Row.l := by simp [flatFrom]
        ks_step "r"
        refine BIN_addT (by simp) (by simp) (by simp [sizeLine]) ?_
        ks_step "r"
        intro B nB
        ks_step "r"
        refine CodeOk.at (law_flat_ok (rs := [.m h0, .c p q s]) G upd_self (flatOk_one F.f (hsm _ rfl) hrs) fun D st₁ hx₁ nD eD => ?_)
        rw [hflat] at eD
        have eA₁ := hx₁ _ _ (upd_old nB eA)
        have hx₂ := (hx.trans (Ext.new nB)).trans hx₁
        clear hx₁
        have dA : D ≠ A := (ne_of (upd_old nB eA) nD).symm
        clear nB
        ks_step "r"
        refine GETS_l ⟨_, eD, (Row.m h0).av, rfl, ?_⟩
        ks_step "r"
        refine BIN_addT (by simp) (by simp) (by simp [sizeLine]) ?_
        ks_step "r"
        refine CMP_ne (row_dat (.m h0)) (row_dat (.m h0)) ?_
        ks_step "r"
        refine ite_ff (show (!AV.beq (Row.m h0).av (Row.m h0).av) = false by rw [beq_row]; simp) ?_
        ks_step "r"
        have hsz : ((Row.m h0 :: (ends 10 ⟨h0, p, q, s⟩ fl).map Row.l).map Row.av).length ≤ sizeLine := by simp [sizeLine]; omega
        refine EV_CompE ?_
        ks_step "r"
        refine .inl ⟨_, _, 1, rfl, eD, EV_int ⟨rfl, rfl⟩, by decide, hsz, fun S nS => ?_⟩
        have eS : upd st₁ S (.list (((Row.m h0 :: (ends 10 ⟨h0, p, q, s⟩ fl).map Row.l).map Row.av).drop (1 : Int).toNat)) S = some (.list (((ends 10 ⟨h0, p, q, s⟩ fl).map Row.l).map Row.av)) := upd_self
        have eD₂ := upd_old (x := .list (((Row.m h0 :: (ends 10 ⟨h0, p, q, s⟩ fl).map Row.l).map Row.av).drop (1 : Int).toNat)) nS eD
        have eA₂ := upd_old (x := .list (((Row.m h0 :: (ends 10 ⟨h0, p, q, s⟩ fl).map Row.l).map Row.av).drop (1 : Int).toNat)) nS eA₁
        have hx₃ := hx₂.trans (Ext.new (o := .list (((Row.m h0 :: (ends 10 ⟨h0, p, q, s⟩ fl).map Row.l).map Row.av).drop (1 : Int).toNat)) nS)
        generalize upd st₁ S (.list (((Row.m h0 :: (ends 10 ⟨h0, p, q, s⟩ fl).map Row.l).map Row.av).drop (1 : Int).toNat)) = st₂ at *
        refine ⟨((ends 10 ⟨h0, p, q, s⟩ fl).map Row.l).map Row.av, fun i ys st' => st' = st₂ ∧ ys = [], fun i ys st' hJ => by obtain ⟨rfl, -⟩ := hJ; exact .list eS, ⟨rfl, rfl⟩, by simp [sizeLine]; omega, ?_, ?_⟩
        · rintro i y ys st' hy ⟨rfl, rfl⟩
          rw [List.getElem?_map, List.getElem?_map] at hy
          cases he : (ends 10 ⟨h0, p, q, s⟩ fl)[i]? with
          | none => rw [he] at hy; cases hy
          | some e =>
            rw [he] at hy; cases hy
            refine CT_one ?_
            ks_step "r"
            exact ⟨rfl, rfl⟩
        · rintro ys st' ⟨rfl, rfl⟩ E nE
          refine ⟨_, _, rfl, upd_self, rfl, fun E' nE' => ?_⟩
          have hx₄ := (Ext.new (o := .list []) nE).trans (Ext.new (o := .list []) nE')
          have eD₃ := hx₄ _ _ eD₂
          have eA₃ := hx₄ _ _ eA₂
          replace hx₄ := hx₃.trans hx₄
          generalize upd (upd st' E (.list [])) E' (.list []) = st₃ at *
          ks_step "r"
          refine GETS_last (xs := (Row.m h0 :: ini.map Row.l).map Row.av) (x := (Row.l s).av) (by rw [eD₃, hini]; simp) ?_
          ks_step "r"
          refine .inr ⟨_, 5, 5, rfl, EV_int ⟨rfl, rfl⟩, rfl, by decide, by simp, by simp [sizeLine], ?_⟩
          ks_step "r"
          refine BIN_addT (by simp) (by simp) (by simp [sizeLine]) ?_
          ks_step "r"
          refine CMP_ne (row_dat (.l s)) (row_dat (.l s)) ?_
          ks_step "r"
          refine ite_ff (show (!AV.beq (Row.l s).av (Row.l s).av) = false by rw [beq_row]; simp) ?_
          ks_step "r"
          refine ⟨_, _, rfl, eA₃, ?_⟩
          ks_step "r"
          refine .inl ⟨_, _, 1, rfl, eD₃, EV_int ⟨rfl, rfl⟩, by decide, hsz, fun S2 nS2 => ?_⟩
          refine ⟨_, _, _, rfl, upd_old nS2 eA₃, upd_self, by simp [sizeLine]; omega, ?_⟩
          ks_step "r"
          refine .inr ⟨_, -2, 5, rfl, EV_neg1 ⟨rfl, rfl⟩, rfl, by decide, by simp, by simp [sizeLine], ?_⟩
          ks_step "r"
          refine ⟨fd ++ (ends 10 ⟨h0, p, q, s⟩ fl).map Row.l, some s, some .c, h1, h3, rfl, ?_, (hx₄.trans (Ext.new nS2)).mut nA, by rw [← hdr]; simp, hok', (fun e => by cases e), (fun p' e => by cases e; exact hrs _ (by simp [Row.pts]))⟩
          rw [upd_self]; simp
  · rintro ρ' st' ⟨fd, here, last, h1, h3, h4, eA, hx, hfd, hok', hhl, hsm⟩
    rw [List.length_map, List.drop_length, flatFrom, List.append_nil] at hfd
    ks_step "r"
    exact h A st' hx nA (hfd ▸ eA)
end

/-! PL3 -/
section


noncomputable def rev (h : Pt) (rs acc : List Row) : Pt × List Row := match rs with
  | [] => (h, acc)
  | .l p :: rs => rev p rs (.l h :: acc)
  | .c p q r :: rs => rev r rs (.c q p h :: acc)
  | .m _ :: rs => rev h rs acc
  | .z :: rs => rev h rs acc
noncomputable def Bodies (rs : List Row) : Prop := ∀ r ∈ rs, r.kd = .l ∨ r.kd = .c
theorem Bodies.tail {r : Row} {rs : List Row} (h : Bodies (r :: rs)) : Bodies rs := fun x hx => h x (.tail _ hx)
noncomputable def Lot.back (l : Lot) : Lot := ⟨(rev l.p l.body []).1, (rev l.p l.body []).2, l.z⟩
noncomputable def need : Kd → Nat
  | .c => 3
  | _ => 1
noncomputable def build : List Kd → List Pt → List Row
  | .c :: ks, p :: q :: r :: ps => .c p q r :: build ks ps
  | .m :: ks, p :: ps => .m p :: build ks ps
  | .l :: ks, p :: ps => .l p :: build ks ps
  | _, _ => []
theorem rev_app : ∀ (as : List Row) (h : Pt) (bs acc : List Row), rev h (as ++ bs) acc = rev (rev h as acc).1 bs (rev h as acc).2
  | [], _, _, _ => rfl
  | .l p :: as, h, bs, acc => rev_app as p bs _
  | .c p q r :: as, h, bs, acc => rev_app as r bs _
  | .m p :: as, h, bs, acc => rev_app as h bs _
  | .z :: as, h, bs, acc => rev_app as h bs _
theorem build_rev : ∀ (rs : List Row) (h : Pt) (ks : List Kd) (ps : List Pt), Bodies rs → ∃ X, (rs.flatMap Row.pts).reverse ++ h :: ps = (rev h rs (build ks ps)).1 :: X ∧ build ((rs.map Row.kd).reverse ++ ks) X = (rev h rs (build ks ps)).2
  | [], h, ks, ps, _ => ⟨ps, rfl, rfl⟩
  | .m p :: rs, _, _, _, hb => by rcases hb _ (.head _) with e | e <;> cases e
  | .z :: rs, _, _, _, hb => by rcases hb _ (.head _) with e | e <;> cases e
  | .l p :: rs, h, ks, ps, hb => by
    obtain ⟨X, h1, h2⟩ := build_rev rs p (.l :: ks) (h :: ps) hb.tail
    refine ⟨X, ?_, ?_⟩
    · simpa [Row.pts, rev, build] using h1
    · simpa [Row.kd, rev, build] using h2
  | .c p q r :: rs, h, ks, ps, hb => by
    obtain ⟨X, h1, h2⟩ := build_rev rs r (.c :: ks) (q :: p :: h :: ps) hb.tail
    refine ⟨X, ?_, ?_⟩
    · simpa [Row.pts, rev, build] using h1
    · simpa [Row.kd, rev, build] using h2
/-- the lot gone along the other way, as the text builds it -/
theorem back_build {l : Lot} (hb : Bodies l.body) : build (.m :: (l.body.map Row.kd).reverse) (l.rows.flatMap Row.pts).reverse ++ zRows l.z = l.back.rows := by
  obtain ⟨X, h1, h2⟩ := build_rev l.body l.p [] [] hb
  have e : l.rows.flatMap Row.pts = l.p :: l.body.flatMap Row.pts := by
    simp only [Lot.rows, List.cons_append, List.flatMap_cons, List.flatMap_append, Row.pts]
    cases l.z <;> simp [zRows, Row.pts]
  have e0 : build [] [] = [] := rfl
  rw [e0] at h1 h2
  rw [e, List.reverse_cons, h1]
  rw [List.append_nil] at h2
  simp only [build, Lot.back, Lot.rows, List.cons_append]
  rw [h2]
theorem rev_bodies : ∀ (rs : List Row) (h : Pt) (acc : List Row), Bodies acc → Bodies (rev h rs acc).2
  | [], _, _, ha => ha
  | .m _ :: rs, h, acc, ha => rev_bodies rs h acc ha
  | .z :: rs, h, acc, ha => rev_bodies rs h acc ha
  | .l p :: rs, h, acc, ha => rev_bodies rs p _ fun r hr => by
    rcases List.mem_cons.mp hr with rfl | hr
    · exact .inl rfl
    · exact ha r hr
  | .c p q r :: rs, h, acc, ha => rev_bodies rs r _ fun r hr => by
    rcases List.mem_cons.mp hr with rfl | hr
    · exact .inr rfl
    · exact ha r hr
theorem rev_len : ∀ (rs : List Row) (h : Pt) (acc : List Row), Bodies rs → (rev h rs acc).2.length = rs.length + acc.length
  | [], _, _, _ => by simp [rev]
  | .m _ :: _, _, _, hb => by rcases hb _ (.head _) with e | e <;> cases e
  | .z :: _, _, _, hb => by rcases hb _ (.head _) with e | e <;> cases e
  | .l p :: rs, h, acc, hb => by have := rev_len rs p (.l h :: acc) hb.tail; simp [rev] at this ⊢; omega
  | .c p q r :: rs, h, acc, hb => by have := rev_len rs r (.c q p h :: acc) hb.tail; simp [rev] at this ⊢; omega
theorem LotOk.back {l : Lot} (h : LotOk l) : LotOk l.back := by
  refine ⟨fun e => ?_, rev_bodies _ _ _ fun _ h => nomatch h⟩
  have := rev_len l.body l.p [] h.2
  have e' : (rev l.p l.body []).2 = [] := e
  rw [e'] at this
  simp at this
  exact h.1 (List.length_eq_zero_iff.mp this.symm)
theorem rev_ls : ∀ (es : List Pt) (h e : Pt) (X : List Pt) (acc : List Row), (h :: es).reverse = e :: X → rev h (es.map Row.l) acc = (e, X.map Row.l ++ acc)
  | [], h, e, X, acc, he => by
    simp at he
    obtain ⟨rfl, rfl⟩ := he
    rfl
  | x :: es, h, e, X, acc, he => by
    have hne : (x :: es).reverse ≠ [] := by simp
    obtain ⟨e', X', hX⟩ := List.exists_cons_of_ne_nil hne
    have ih := rev_ls es x e' X' (.l h :: acc) hX
    rw [List.reverse_cons, hX, List.cons_append] at he
    injection he with h1 h2
    subst h1; subst h2
    simp only [List.map_cons, rev]
    rw [ih]
    simp
/-- told the other way -/
theorem flat_rev (fl : Int) : ∀ (rs : List Row) (h : Pt) (acc : List Row), Bodies rs → (rev h (flatFrom fl (some h) rs) (flatFrom fl (some h) acc)) = ((rev h rs acc).1, flatFrom fl (some (rev h rs acc).1) (rev h rs acc).2)
  | [], h, acc, _ => rfl
  | .m _ :: _, _, _, hb => by rcases hb _ (.head _) with e | e <;> cases e
  | .z :: _, _, _, hb => by rcases hb _ (.head _) with e | e <;> cases e
  | .l p :: rs, h, acc, hb => by
    have ih := flat_rev fl rs p (.l h :: acc) hb.tail
    simp only [flatFrom, rev] at ih ⊢
    exact ih
  | .c p q r :: rs, h, acc, hb => by
    have ih := flat_rev fl rs r (.c q p h :: acc) hb.tail
    simp only [flatFrom, rev, Option.getD_some] at ih ⊢
    rw [rev_app]
    have hr := ends_rev 10 ⟨h, p, q, r⟩ fl
    have e := rev_ls (ends 10 ⟨h, p, q, r⟩ fl) h r (ends 10 ⟨r, q, p, h⟩ fl) (flatFrom fl (some h) acc) hr.symm
    rw [e]
    exact ih
theorem back_flat (fl : Int) {l : Lot} (h : LotOk l) : l.back.flat fl = (l.flat fl).back := by
  have := flat_rev fl l.body l.p [] h.2
  have e : flatFrom fl (some l.p) [] = [] := rfl
  rw [e] at this
  simp only [Lot.back, Lot.flat, this]
/-- whole paths -/
theorem flat_back (fl : Int) {lots : List Lot} (h : ∀ l ∈ lots, LotOk l) : flat fl (allRows (lots.map Lot.back)) = allRows ((lots.map (Lot.flat fl)).map Lot.back) := by
  rw [flat, flat_lots, List.map_map, List.map_map]
  congr 1
  refine List.map_congr_left fun l hl => back_flat fl (h l hl)
theorem flat_map_body {f : Pt → Pt} (hh : ∀ p q, half (f p) (f q) = f (half p q)) (hf : ∀ (q : Quad) fl, (q.map f).flat fl = q.flat fl) (fl : Int) : ∀ (rs : List Row) (h : Pt), flatFrom fl (some (f h)) (rs.map (Row.map f)) = (flatFrom fl (some h) rs).map (Row.map f)
  | [], _ => rfl
  | .m p :: rs, h => by simp [flatFrom, Row.map, flat_map_body hh hf fl rs p]
  | .l p :: rs, h => by simp [flatFrom, Row.map, flat_map_body hh hf fl rs p]
  | .z :: rs, h => by simp [flatFrom, Row.map, flat_map_body hh hf fl rs h]
  | .c p q r :: rs, h => by
    have e := ends_map hh hf 10 ⟨h, p, q, r⟩ fl
    simp only [Quad.map] at e
    simp [flatFrom, Row.map, flat_map_body hh hf fl rs r, e, Function.comp_def]
theorem z_map (f : Pt → Pt) (z : Bool) : (zRows z).map (Row.map f) = zRows z := by cases z <;> rfl
theorem lot_map_rows (f : Pt → Pt) (l : Lot) : (l.map f).rows = l.rows.map (Row.map f) := by simp [Lot.rows, Lot.map, Row.map, z_map]
theorem lots_map_rows (f : Pt → Pt) : ∀ lots : List Lot, allRows (lots.map (Lot.map f)) = (allRows lots).map (Row.map f)
  | [] => rfl
  | l :: lots => by
    have ih := lots_map_rows f lots
    simp only [allRows, List.map_cons, List.flatMap_cons, List.map_append, lot_map_rows] at ih ⊢
    rw [ih]
theorem LotOk.map {l : Lot} (h : LotOk l) (f : Pt → Pt) : LotOk (l.map f) := by
  refine ⟨by simpa [Lot.map] using h.1, fun r hr => ?_⟩
  obtain ⟨x, hx, rfl⟩ := List.mem_map.mp hr
  have := h.2 x hx
  cases x <;> exact this
theorem flat_led {f : Pt → Pt} (hh : ∀ p q, half (f p) (f q) = f (half p q)) (hf : ∀ (q : Quad) fl, (q.map f).flat fl = q.flat fl) (fl : Int) (lots : List Lot) : allRows ((lots.map (Lot.map f)).map (Lot.flat fl)) = (allRows (lots.map (Lot.flat fl))).map (Row.map f) := by
  rw [← lots_map_rows, List.map_map, List.map_map]
  congr 1
  refine List.map_congr_left fun l _ => ?_
  simp only [Function.comp_def, Lot.map, Lot.flat, flat_map_body hh hf]
/-- finer -/
theorem flat_finer {f g : Int} (h0 : 0 ≤ f) (h : f ≤ g) : ∀ (rs : List Row) (x : Option Pt), (flatFrom g x rs).Sublist (flatFrom f x rs)
  | [], _ => .slnil
  | .m p :: rs, x => (flat_finer h0 h rs _).cons_cons _
  | .l p :: rs, x => (flat_finer h0 h rs _).cons_cons _
  | .z :: rs, x => (flat_finer h0 h rs _).cons_cons _
  | .c p q r :: rs, x => ((ends_finer h0 h 10 _).map Row.l).append (flat_finer h0 h rs _)
theorem back_rows_len : ∀ lots : List Lot, (∀ l ∈ lots, LotOk l) → (allRows (lots.map Lot.back)).length = (allRows lots).length
  | [], _ => rfl
  | l :: lots, h => by
    have ih := back_rows_len lots fun x hx => h x (.tail _ hx)
    have := rev_len l.body l.p [] (h l (.head _)).2
    simp only [allRows, List.map_cons, List.flatMap_cons, List.length_append, Lot.rows, Lot.back, List.length_cons, List.length_nil] at ih this ⊢
    omega
theorem take_rows_len (i : Nat) (lots : List Lot) : (allRows (lots.take i)).length ≤ (allRows lots).length := by
  have e : allRows lots = allRows (lots.take i) ++ allRows (lots.drop i) := by
    simp only [allRows]; rw [← List.flatMap_append, List.take_append_drop]
  rw [e, List.length_append]; omega

end

/-! C19 -/
section

variable {w : World} {b : Heap} {lev : Nat} {sc : Scope} {ρ : Ren} {st : St}
noncomputable def ledItems (f : Pt → Pt) (k : Kd) (ps : List Pt) : List AV := .str k.str :: ps.flatMap fun p => [.int (f p).1, .int (f p).2]
theorem led_items (f : Pt → Pt) (r : Row) : AV.tup (ledItems f r.kd r.pts) = (r.map f).av := by cases r <;> rfl
theorem led_len (f : Pt → Pt) (k : Kd) (ps : List Pt) : (ledItems f k ps).length = 1 + 2 * ps.length := by
  unfold ledItems
  induction ps with
  | nil => rfl
  | cons p ps ih => simp only [List.flatMap_cons, List.length_cons, List.length_append, List.length_nil] at ih ⊢; omega
theorem pts_len (r : Row) : r.pts.length ≤ 3 := by cases r <;> simp [Row.pts]

theorem led_ok (G : Gd w b) {a L : Addr} {rs : List Row} {o : Obj} {fd : FuncData} {f : Pt → Pt} {Q : AV → St → Prop} (ea : st a = some (.list (rs.map Row.av))) (hz : rs.length ≤ 1500) (eL : st L = some (.raw o)) (ho : o.data = .func fd)
    (hL : ∀ st', Ext st st' → ∀ (p : Pt) (Q' : AV → St → Prop), Q' (pav (f p)) st' → CodeOk w b 1 (.ref L) [.int p.1, .int p.2] st' Q')
    (h : ∀ A st', Ext st st' → st A = none → st' A = some (.list ((rs.map (Row.map f)).map Row.av)) → Q (.obj A) st') : CodeOk w b 2 (.ref 288) [.obj a, .obj L] st Q := by
  ks_step "fill"
  refine' CODE_def G (["rows", "lead"] : List Str) ?ho ?hcd ?hb ?hl ?_ ?hn ?hk ?hco ?hgen
  ks_step "def"
  ks_step "r"
  intro A nA
  ks_step "r"
  refine ES_For (.obj a) (rs.map Row.av) (fun i ρ' st' => ρ' "found" = some (.obj A) ∧ ρ' "lead" = some (.obj L) ∧ st' A = some (.list (((rs.take i).map (Row.map f)).map Row.av)) ∧ Ext st st') ?_ (hg := letGo_name)
  ks_step "r"
  refine ⟨rfl, ?_, ⟨rfl, rfl, upd_self, Ext.new nA⟩, ?_, ?_⟩
  · rintro i ρ' st' ⟨-, -, -, hx⟩
    exact .list (hx _ _ ea)
  · rintro i y ρ' st' hy ⟨h1, h2, eA, hx⟩
    refine ⟨_, asg_name, ?_⟩
    intro Qn hQn
    rw [List.getElem?_map] at hy
    cases hr : rs[i]? with
    | none => rw [hr] at hy; cases hy
    | some r =>
      rw [hr] at hy; cases hy
      have hlt := (List.getElem?_eq_some_iff.mp hr).1
      have hp := pts_len r
      ks_step "r"
      refine GETS_row0 ?_
      ks_step "r"
      intro N nN
      have nN' : st N = none := by
        cases e : st N with
        | none => rfl
        | some o => rw [hx _ _ e] at nN; cases nN
      have eN : upd st' N (.list [.str r.kd.str]) N = some (.list (ledItems f r.kd [])) := upd_self
      have hAN : A ≠ N := ne_of eA nN
      have eA := upd_old (x := .list [.str r.kd.str]) nN eA
      replace hx := hx.trans (Ext.new (o := .list [.str r.kd.str]) nN)
      generalize upd st' N (.list [.str r.kd.str]) = st₁ at *
      clear nN
      ks_step "r"
      refine ES_ForE ?_
      ks_step "r"
      refine CodeOk.at (pairs_ok G fun P nP => ?_)
      ks_step "r"
      have hNP : N ≠ P := ne_of eN nP
      have hAP : A ≠ P := ne_of eA nP
      refine ⟨_, fun j ρ'' st'' => ρ'' "found" = some (.obj A) ∧ ρ'' "lead" = some (.obj L) ∧ ρ'' "numbers" = some (.obj N) ∧ st'' N = some (.list (ledItems f r.kd (r.pts.take j))) ∧ st'' A = some (.list (((rs.take i).map (Row.map f)).map Row.av)) ∧ st'' P = some (.list (r.pts.map pav)) ∧ Ext st st'',
        fun j ρ'' st'' hJ => .list hJ.2.2.2.2.2.1, ⟨h1, h2, rfl, upd_old nP eN, upd_old nP eA, upd_self, hx.trans (Ext.new nP)⟩, ?_, ?_, letGo_tup fun x hx => by obtain ⟨y, -, rfl⟩ := List.mem_map.mp hx; exact ⟨_, rfl⟩⟩
      · rintro j y ρ'' st'' hy ⟨g1, g2, g3, gN, gA, gP, gx⟩
        rw [List.getElem?_map] at hy
        cases hq : r.pts[j]? with
        | none => rw [hq] at hy; cases hy
        | some q =>
          rw [hq] at hy; cases hy
          refine ⟨_, asg_two, ?_⟩
          intro Qn hQn
          ks_step "r"
          refine ⟨_, _, rfl, gN, ?_⟩
          ks_step "r"
          refine EV_CallF ?_
          ks_step "r"
          refine ⟨L, o, fd, rfl, ho, ?_⟩
          ks_step "r"
          refine ⟨gx _ _ eL, ?_⟩
          refine CodeOk.at (hL st'' gx q _ ?_)
          ks_step "r"
          refine C_listT (by simp [sizeLine]) fun E nE => ?_
          ks_step "r"
          refine ⟨_, _, _, rfl, upd_old nE gN, upd_self, by rw [led_len]; simp [sizeLine]; omega, ?_⟩
          ks_step "r"
          have gx' := gx.trans (Ext.new (o := .list [.int (f q).1, .int (f q).2]) nE)
          refine ⟨g1, g2, g3, ?_, upd_oth hAN (upd_old nE gA), upd_oth hNP.symm (upd_old nE gP), gx'.mut nN'⟩
          rw [upd_self, List.take_add_one, hq]
          simp [ledItems]
      · rintro ρ'' st'' ⟨g1, g2, g3, gN, gA, gP, gx⟩
        rw [List.length_map, List.take_length] at gN
        ks_step "r"
        refine ⟨_, _, rfl, gA, ?_⟩
        ks_step "r"
        refine C_tuple gN (by rw [led_len]; simp [sizeLine]; omega) ?_
        ks_step "r"
        refine ⟨_, gA, by simp [sizeLine]; omega, ?_⟩
        ks_step "r"
        refine ⟨g1, g2, ?_, gx.mut nA⟩
        rw [upd_self, List.take_add_one, hr, led_items]
        simp
  · rintro ρ' st' ⟨h1, h2, eA, hx⟩
    rw [List.length_map, List.take_length] at eA
    ks_step "r"
    exact h A st' hx nA eA
end

/-! C18 -/
section

variable {w : World} {b : Heap} {lev : Nat} {sc : Scope} {ρ : Ren} {st : St}
noncomputable abbrev Grp := Addr × List Row
@[reducible] noncomputable def gAv (g : Grp) : AV := .obj g.1
noncomputable def splitStep (gs : List (List Row)) (r : Row) : List (List Row) := if r.kd = .m then gs ++ [[r]] else gs.dropLast ++ [gs.getLastD [] ++ [r]]
theorem split_tail : ∀ (rs : List Row) (gs : List (List Row)) (g : List Row), (∀ r ∈ rs, r.kd ≠ .m) → rs.foldl splitStep (gs ++ [g]) = gs ++ [g ++ rs]
  | [], gs, g, _ => by simp
  | r :: rs, gs, g, h => by
    have hr := h r (.head _)
    simp only [List.foldl_cons, splitStep, if_neg hr, List.dropLast_concat, List.getLastD_concat]
    rw [split_tail rs gs (g ++ [r]) fun x hx => h x (.tail _ hx)]
    simp
theorem split_lots : ∀ (lots : List Lot) (gs : List (List Row)), (∀ l ∈ lots, LotOk l) → (allRows lots).foldl splitStep gs = gs ++ lots.map Lot.rows
  | [], gs, _ => by simp
  | l :: lots, gs, h => by
    have hl := h l (.head _)
    simp only [allRows, List.flatMap_cons, List.foldl_append]
    have e : l.rows.foldl splitStep gs = gs ++ [l.rows] := by
      simp only [Lot.rows, List.cons_append, List.foldl_cons]
      have e0 : splitStep gs (.m l.p) = gs ++ [[.m l.p]] := by simp [splitStep, Row.kd]
      rw [e0, split_tail _ gs [.m l.p] fun r hr => ?_]
      · simp
      · rcases List.mem_append.mp hr with hr | hr
        · rcases hl.2 r hr with e | e <;> rw [e] <;> decide
        · unfold zRows at hr; split at hr
          · rw [List.mem_singleton] at hr; subst hr; exact fun e => by cases e
          · cases hr
    rw [e]
    have ih := split_lots lots (gs ++ [l.rows]) fun x hx => h x (.tail _ hx)
    simp only [allRows] at ih
    rw [ih]; simp
/-- the lists that the first loop makes -/
structure Grps (st st' : St) (X : Addr) (gs : List Grp) : Prop where
  eX : st' X = some (.list (gs.map gAv))
  eg : ∀ g ∈ gs, st' g.1 = some (.list (g.2.map Row.av))
  ng : ∀ g ∈ gs, st g.1 = none
  gX : ∀ g ∈ gs, g.1 ≠ X
  ap : gs.Pairwise fun g g' => g.1 ≠ g'.1

noncomputable def lcK (k : Kd) : Bool := k == .l || k == .c
theorem kds_last {l : Lot} (h : LotOk l) : ∃ ini k, l.rows.map Row.kd = ini ++ [k] ∧ decide (k = .z) = l.z := by
  cases hz : l.z with
  | true => exact ⟨(.m :: l.body.map Row.kd), .z, by simp [Lot.rows, zRows, hz, Row.kd], rfl⟩
  | false =>
    rcases List.eq_nil_or_concat l.body with e | ⟨ini, r, e⟩
    · exact (h.1 e).elim
    · rw [List.concat_eq_append] at e
      refine ⟨(.m :: ini.map Row.kd), r.kd, by simp [Lot.rows, zRows, hz, Row.kd, e], ?_⟩
      rcases h.2 r (by rw [e]; simp) with e' | e' <;> rw [e'] <;> rfl
theorem kds_filter {l : Lot} (h : LotOk l) : (l.rows.map Row.kd).reverse.filter lcK = (l.body.map Row.kd).reverse := by
  have hb : ∀ k ∈ (l.body.map Row.kd).reverse, lcK k = true := fun k hk => by
    rw [List.mem_reverse] at hk
    obtain ⟨r, hr, rfl⟩ := List.mem_map.mp hk
    rcases h.2 r hr with e | e <;> rw [e] <;> rfl
  have e : l.rows.map Row.kd = .m :: (l.body.map Row.kd ++ (zRows l.z).map Row.kd) := by simp [Lot.rows, Row.kd]
  rw [e, List.reverse_cons, List.reverse_append, List.filter_append, List.filter_append]
  have e1 : ((zRows l.z).map Row.kd).reverse.filter lcK = [] := by cases l.z <;> rfl
  have e2 : [Kd.m].filter lcK = [] := rfl
  rw [e1, e2, List.append_nil, List.nil_append]
  exact List.filter_eq_self.mpr hb
theorem pts_sum : ∀ rs : List Row, (rs.flatMap Row.pts).length ≤ 3 * rs.length
  | [] => by simp
  | r :: rs => by
    have := pts_sum rs
    have h2 : r.pts.length ≤ 3 := by cases r <;> simp [Row.pts]
    simp only [List.flatMap_cons, List.length_append, List.length_cons]; omega
theorem lc_in (k : Kd) : ((AV.pys [AV.str "l", AV.str "c"]).any fun y => PyData.eqv y (AV.str k.str).py) = lcK k := by cases k <;> decide +kernel

theorem need_rev : ∀ ks : List Kd, (ks.reverse.map need).sum = (ks.map need).sum
  | [] => rfl
  | k :: ks => by simp [need_rev ks, Nat.add_comm]
theorem need_pts : ∀ rs : List Row, Bodies rs → ((rs.map Row.kd).map need).sum = (rs.flatMap Row.pts).length
  | [], _ => rfl
  | r :: rs, h => by
    have ih := need_pts rs h.tail
    have hr : need r.kd = r.pts.length := by
      rcases h r (.head _) with e | e <;> cases r <;> first | rfl | cases e
    simp only [List.map_cons, List.sum_cons, List.flatMap_cons, List.length_append, hr, ih]
theorem need_lot {l : Lot} (h : LotOk l) : ((Kd.m :: (l.body.map Row.kd).reverse).map need).sum = (l.rows.flatMap Row.pts).length := by
  have e : l.rows.flatMap Row.pts = l.p :: l.body.flatMap Row.pts := by
    simp only [Lot.rows, List.cons_append, List.flatMap_cons, List.flatMap_append, Row.pts]
    cases l.z <;> simp [zRows, Row.pts]
  rw [e, List.map_cons, List.sum_cons, need_rev, need_pts _ h.2, List.length_cons]
  simp [need, Nat.add_comm]

theorem build_step {k : Kd} {ks : List Kd} {ps : List Pt} (hk : k ≠ .z) (hn : need k ≤ ps.length) : ∃ r, AV.tup (ledItems (fun p => p) k (ps.take (need k))) = Row.av r ∧ build (k :: ks) ps = r :: build ks (ps.drop (need k)) := by
  cases k with
  | z => exact (hk rfl).elim
  | m => match ps, hn with
    | p :: ps, _ => exact ⟨.m p, rfl, rfl⟩
  | l => match ps, hn with
    | p :: ps, _ => exact ⟨.l p, rfl, rfl⟩
  | c => match ps, hn with
    | p :: q :: r :: ps, _ => exact ⟨.c p q r, rfl, rfl⟩

theorem back_ok (G : Gd w b) {a : Addr} {lots : List Lot} {Q : AV → St → Prop} (ea : st a = some (.list ((allRows lots).map Row.av))) (hz : (allRows lots).length ≤ 1500) (hl : ∀ l ∈ lots, LotOk l)
    (h : ∀ A st', Ext st st' → st A = none → st' A = some (.list ((allRows (lots.map Lot.back)).map Row.av)) → Q (.obj A) st') : CodeOk w b 2 (.ref 293) [.obj a] st Q := by
  ks_step "fill"
  refine' CODE_def G (["rows"] : List Str) ?ho ?hcd ?hb ?hl ?_ ?hn ?hk ?hco ?hgen
  ks_step "def"
  ks_step "r"
  intro X nX
  ks_step "r"
  have hok := ok_lots lots none (by decide) hl
  refine ES_For (.obj a) ((allRows lots).map Row.av) (fun i ρ' st' => ∃ gs : List Grp, ρ' "lots" = some (.obj X) ∧ Grps st st' X gs ∧ Ext st st' ∧ gs.map (·.2) = ((allRows lots).take i).foldl splitStep [] ∧ (gs = [] → i = 0) ∧ gs.length ≤ i ∧ ∀ g ∈ gs, g.2.length ≤ i) ?_ (hg := letGo_name)
  ks_step "r"
  refine ⟨rfl, ?_, ⟨[], rfl, ⟨upd_self, (fun _ h => nomatch h), (fun _ h => nomatch h), (fun _ h => nomatch h), .nil⟩, Ext.new nX, rfl, fun _ => rfl, Nat.le_refl _, fun _ h => nomatch h⟩, ?_, ?_⟩
  · rintro i ρ' st' ⟨gs, -, -, hx, -⟩
    exact .list (hx _ _ ea)
  · rintro i y ρ' st' hy ⟨gs, h1, g, hx, hsp, hne, hgl, hgr⟩
    refine ⟨_, asg_name, ?_⟩
    intro Qn hQn
    rw [List.getElem?_map] at hy
    cases hr : (allRows lots)[i]? with
    | none => rw [hr] at hy; cases hy
    | some r =>
      rw [hr] at hy; cases hy
      have hlt := (List.getElem?_eq_some_iff.mp hr).1
      have htk : ((allRows lots).take (i + 1)).foldl splitStep [] = splitStep (gs.map (·.2)) r := by rw [List.take_add_one, hr, hsp]; simp
      have hst := ok_at0 hok hr
      ks_step "r"
      refine GETS_row0 ?_
      ks_step "r"
      rw [kd_m]
      -- what the append of the row does
      have fin : ∀ (ini : List Grp) (e : Grp) (st₂ : St), Grps st st₂ X (ini ++ [e]) → Ext st st₂ → (ini ++ [(e.1, e.2 ++ [r])]).map (·.2) = splitStep (gs.map (·.2)) r → (ini ++ [e]).length ≤ i + 1 →
          Grps st (upd st₂ e.1 (.list ((e.2 ++ [r]).map Row.av))) X (ini ++ [(e.1, e.2 ++ [r])]) ∧ Ext st (upd st₂ e.1 (.list ((e.2 ++ [r]).map Row.av))) := by
        intro ini e st₂ g₂ hx₂ _ _
        have ap := List.pairwise_append.mp g₂.ap
        refine ⟨⟨?_, fun x hxm => ?_, fun x hxm => ?_, fun x hxm => ?_, ?_⟩, hx₂.mut (g₂.ng e (by simp))⟩
        · rw [upd_ne (g₂.gX e (by simp)).symm]; rw [g₂.eX]; simp
        · rcases List.mem_append.mp hxm with hxm | hxm
          · exact upd_oth (ap.2.2 x hxm e (by simp)) (g₂.eg x (by simp [hxm]))
          · rw [List.mem_singleton] at hxm; subst hxm; exact upd_self
        · rcases List.mem_append.mp hxm with hxm | hxm
          · exact g₂.ng x (by simp [hxm])
          · rw [List.mem_singleton] at hxm; subst hxm; exact g₂.ng e (by simp)
        · rcases List.mem_append.mp hxm with hxm | hxm
          · exact g₂.gX x (by simp [hxm])
          · rw [List.mem_singleton] at hxm; subst hxm; exact g₂.gX e (by simp)
        · rw [List.pairwise_append]
          exact ⟨ap.1, .cons (fun _ h => nomatch h) .nil, fun x hxm y hym => by rw [List.mem_singleton] at hym; subst hym; exact ap.2.2 x hxm e (by simp)⟩
      refine ite_bb (fun cc => ?_) fun cc => ?_
      · have hm : r.kd = .m := by simpa using cc
        ks_step "r"
        refine ⟨_, _, rfl, g.eX, ?_⟩
        ks_step "r"
        intro N nN
        have nN' : st N = none := by
          cases e : st N with
          | none => rfl
          | some o => rw [hx _ _ e] at nN; cases nN
        have hXN := ne_of g.eX nN
        refine ⟨_, upd_old nN g.eX, by simp [sizeLine]; omega, ?_⟩
        have g₂ : Grps st (upd (upd st' N (.list [])) X (.list (gs.map gAv ++ [.obj N]))) X (gs ++ [(N, [])]) := by
          refine ⟨by rw [upd_self]; simp, fun x hxm => ?_, fun x hxm => ?_, fun x hxm => ?_, ?_⟩
          · rcases List.mem_append.mp hxm with hxm | hxm
            · exact upd_oth (g.gX x hxm) (upd_old nN (g.eg x hxm))
            · rw [List.mem_singleton] at hxm; subst hxm; exact upd_oth hXN.symm upd_self
          · rcases List.mem_append.mp hxm with hxm | hxm
            · exact g.ng x hxm
            · rw [List.mem_singleton] at hxm; subst hxm; exact nN'
          · rcases List.mem_append.mp hxm with hxm | hxm
            · exact g.gX x hxm
            · rw [List.mem_singleton] at hxm; subst hxm; exact hXN.symm
          · rw [List.pairwise_append]
            exact ⟨g.ap, .cons (fun _ h => nomatch h) .nil, fun x hxm y hym => by rw [List.mem_singleton] at hym; subst hym; exact ne_of (g.eg x hxm) nN⟩
        have hx₂ : Ext st (upd (upd st' N (.list [])) X (.list (gs.map gAv ++ [.obj N]))) := (hx.trans (Ext.new nN)).mut nX
        generalize upd (upd st' N (.list [])) X (.list (gs.map gAv ++ [.obj N])) = st₂ at *
        have hsplit : (gs ++ [((N, [] ++ [r]) : Grp)]).map (·.2) = splitStep (gs.map (·.2)) r := by simp [splitStep, hm]
        obtain ⟨g₃, hx₃⟩ := fin gs (N, []) st₂ g₂ hx₂ hsplit (by simp; omega)
        ks_step "r"
        refine GETS_last (xs := gs.map gAv) (x := .obj N) (by rw [g₂.eX]; simp) ?_
        ks_step "r"
        refine ⟨_, _, rfl, g₂.eg (N, []) (by simp), ?_⟩
        ks_step "r"
        refine ⟨_, g₂.eg (N, []) (by simp), by simp [sizeLine], ?_⟩
        ks_step "r"
        refine ⟨gs ++ [(N, [] ++ [r])], h1, g₃, hx₃, by rw [htk]; exact hsplit, (fun e => by simp at e), by simp; omega, fun x hxm => ?_⟩
        rcases List.mem_append.mp hxm with hxm | hxm
        · exact Nat.le_succ_of_le (hgr x hxm)
        · rw [List.mem_singleton] at hxm; subst hxm; simp
      · have hm : r.kd ≠ .m := by simpa using cc
        have hgs : gs ≠ [] := fun e => by
          have := hne e; subst this
          simp only [List.take_zero] at hst
          cases r <;> first | exact hm rfl | cases hst
        obtain ⟨ini, e, rfl⟩ : ∃ ini e, gs = ini ++ [e] := by
          rcases List.eq_nil_or_concat gs with rfl | ⟨ini, e, he⟩
          · exact (hgs rfl).elim
          · exact ⟨ini, e, by rw [List.concat_eq_append] at he; exact he⟩
        have hsplit : (ini ++ [(e.1, e.2 ++ [r])]).map (·.2) = splitStep ((ini ++ [e]).map (·.2)) r := by simp [splitStep, hm]
        obtain ⟨g₃, hx₃⟩ := fin ini e st' g hx hsplit (by omega)
        ks_step "r"
        refine GETS_last (xs := ini.map gAv) (x := .obj e.1) (by rw [g.eX]; simp) ?_
        ks_step "r"
        refine ⟨_, _, rfl, g.eg e (by simp), ?_⟩
        ks_step "r"
        refine ⟨_, g.eg e (by simp), ?_, ?_⟩
        · have := hgr e (by simp); simp [sizeLine]; omega
        ks_step "r"
        rw [List.map_append] at g₃ hx₃
        refine ⟨ini ++ [(e.1, e.2 ++ [r])], h1, g₃, hx₃, by rw [htk]; exact hsplit, (fun e => by simp at e), by simp at hgl ⊢; omega, fun x hxm => ?_⟩
        rcases List.mem_append.mp hxm with hxm | hxm
        · exact Nat.le_succ_of_le (hgr x (by simp [hxm]))
        · have := hgr e (by simp)
          rw [List.mem_singleton] at hxm; subst hxm; simp; omega
  · rintro ρ' st' ⟨gs, h1, g, hx, hsp, -, -, hgr⟩
    rw [List.length_map, List.take_length, split_lots lots [] hl, List.nil_append] at hsp
    ks_step "r"
    intro A nA
    have nA' : st A = none := by
      cases e : st A with
      | none => rfl
      | some o => rw [hx _ _ e] at nA; cases nA
    have hXA := ne_of g.eX nA
    have hgA : ∀ x ∈ gs, x.1 ≠ A := fun x hxm => ne_of (g.eg x hxm) nA
    have hlen : gs.length = lots.length := by have := congrArg List.length hsp; simpa using this
    ks_step "r"
    refine ES_ForE ?_
    ks_step "r"
    refine ⟨gs.map gAv, fun i ρ' st'' => ρ' "found" = some (.obj A) ∧ st'' A = some (.list ((allRows ((lots.take i).map Lot.back)).map Row.av)) ∧ st'' X = some (.list (gs.map gAv)) ∧ (∀ x ∈ gs, st'' x.1 = some (.list (x.2.map Row.av))) ∧ Ext st st'',
      fun i ρ' st'' hJ => .list hJ.2.2.1, ⟨rfl, upd_self, upd_old nA g.eX, fun x hxm => upd_old nA (g.eg x hxm), hx.trans (Ext.new nA)⟩, ?_, ?_, letGo_name⟩
    · rintro i y ρ' st'' hy ⟨h2, eA, eX, eg, hx2⟩
      refine ⟨_, asg_name, ?_⟩
      intro Qn hQn
      rw [List.getElem?_map] at hy
      cases hgi : gs[i]? with
      | none => rw [hgi] at hy; cases hy
      | some gi =>
        rw [hgi] at hy; cases hy
        have hgm := List.mem_of_getElem? hgi
        obtain ⟨l, hli, hlr⟩ : ∃ l, lots[i]? = some l ∧ gi.2 = l.rows := by
          have := congrArg (·[i]?) hsp
          simp only [List.getElem?_map, hgi, Option.map_some] at this
          cases hl' : lots[i]? with
          | none => rw [hl'] at this; cases this
          | some l => rw [hl'] at this; exact ⟨l, rfl, Option.some.inj this⟩
        have hlm := List.mem_of_getElem? hli
        have hlo := hl l hlm
        have hll : l.rows.length ≤ 1500 := by have := hgr gi hgm; rw [hlr] at this; rw [List.length_map] at this; omega
        have egi := eg gi hgm
        rw [hlr] at egi
        have hps := pts_sum l.rows
        ks_step "r"
        intro P nP
        ks_step "r"
        intro W nW
        have hPW : P ≠ W := fun e => by subst e; rw [upd_self] at nW; cases nW
        have nW' : st'' W = none := by rw [upd_ne hPW.symm] at nW; exact nW
        ks_step "r"
        refine ES_ForE ?_
        ks_step "r"
        refine ⟨l.rows.map Row.av, fun j ρ₂ st₂ => ρ₂ "found" = some (.obj A) ∧ ρ₂ "points" = some (.obj P) ∧ ρ₂ "words" = some (.obj W) ∧ st₂ P = some (.list (((l.rows.take j).flatMap Row.pts).map pav)) ∧ st₂ W = some (.list (((l.rows.take j).map Row.kd).map kAv)) ∧ Ext st'' st₂,
          fun j ρ₂ st₂ hJ => .list (hJ.2.2.2.2.2 _ _ egi), ⟨h2, rfl, rfl, upd_old nW upd_self, upd_self, (Ext.new nP).trans (Ext.new nW)⟩, ?_, ?_, letGo_name⟩
        · rintro j y ρ₂ st₂ hy ⟨k1, k2, k3, kP, kW, kx⟩
          rw [List.getElem?_map] at hy
          cases hr : l.rows[j]? with
          | none => rw [hr] at hy; cases hy
          | some r =>
            rw [hr] at hy; cases hy
            have hlt := (List.getElem?_eq_some_iff.mp hr).1
            have hpj := pts_sum (l.rows.take j)
            have hp3 : r.pts.length ≤ 3 := by cases r <;> simp [Row.pts]
            rw [List.length_take] at hpj
            refine ⟨_, asg_name, ?_⟩
            intro Qn hQn
            ks_step "r"
            refine ⟨_, _, rfl, kP, ?_⟩
            ks_step "r"
            refine CodeOk.at (pairs_ok G fun D nD => ?_)
            ks_step "r"
            refine ⟨_, _, _, rfl, upd_old nD kP, upd_self, by simp only [List.length_map]; unfold sizeLine; omega, ?_⟩
            have kW' := upd_oth (x := .list (((l.rows.take j).flatMap Row.pts).map pav ++ r.pts.map pav)) hPW.symm (upd_old (x := .list (r.pts.map pav)) nD kW)
            have kP' : upd (upd st₂ D (.list (r.pts.map pav))) P (.list (((l.rows.take j).flatMap Row.pts).map pav ++ r.pts.map pav)) P = _ := upd_self
            have kx' := (kx.trans (Ext.new (o := .list (r.pts.map pav)) nD)).mut (o := .list (((l.rows.take j).flatMap Row.pts).map pav ++ r.pts.map pav)) nP
            generalize upd (upd st₂ D (.list (r.pts.map pav))) P (.list (((l.rows.take j).flatMap Row.pts).map pav ++ r.pts.map pav)) = st₃ at *
            ks_step "r"
            refine ⟨_, _, rfl, kW', ?_⟩
            ks_step "r"
            refine GETS_row0 ?_
            ks_step "r"
            refine ⟨_, kW', by simp [sizeLine]; omega, ?_⟩
            ks_step "r"
            refine ⟨k1, k2, k3, ?_, ?_, kx'.mut nW'⟩
            · rw [upd_ne hPW, kP', List.take_add_one, hr]; simp
            · rw [upd_self, List.take_add_one, hr]; simp
        · rintro ρ₂ st₂ ⟨k1, k2, k3, kP, kW, kx⟩
          rw [List.length_map, List.take_length] at kP kW
          obtain ⟨ini, k, hk1, hk2⟩ := kds_last hlo
          ks_step "r"
          refine GETS_last (xs := ini.map kAv) (x := kAv k) (by rw [kW, hk1]; simp) ?_
          ks_step "r"
          rw [kd_z, hk2]
          ks_step "r"
          intro M nM
          have kdl : (l.rows.map Row.kd).length ≤ 1500 := by rw [List.length_map]; exact hll
          ks_step "r"
          refine EV_CompE ?_
          ks_step "r"
          refine ⟨_, _, rfl, upd_old nM kW, by simp [sizeLine]; omega, fun R nR => ?_⟩
          have eM := upd_old (x := .list (((l.rows.map Row.kd).map kAv).reverse)) nR (upd_self (st := st₂) (a := M) (o := .list [AV.str "m"]))
          have eR : upd (upd st₂ M (.list [AV.str "m"])) R (.list (((l.rows.map Row.kd).map kAv).reverse)) R = _ := upd_self
          have kP₂ := upd_old (x := .list (((l.rows.map Row.kd).map kAv).reverse)) nR (upd_old (x := .list [AV.str "m"]) nM kP)
          have kx₂ := (kx.trans (Ext.new (o := .list [AV.str "m"]) nM)).trans (Ext.new (o := .list (((l.rows.map Row.kd).map kAv).reverse)) nR)
          generalize upd (upd st₂ M (.list [AV.str "m"])) R (.list (((l.rows.map Row.kd).map kAv).reverse)) = st₃ at *
          rw [← List.map_reverse] at eR
          refine ⟨((l.rows.map Row.kd).reverse).map kAv, fun i ys st₄ => st₄ = st₃ ∧ ys = ((((l.rows.map Row.kd).reverse).take i).filter lcK).map kAv, fun i ys st₄ hJ => by obtain ⟨rfl, -⟩ := hJ; exact .list eR, ⟨rfl, rfl⟩, by simp [sizeLine]; omega, ?_, ?_⟩
          · rintro i y ys st₄ hy ⟨rfl, rfl⟩
            rw [List.getElem?_map] at hy
            cases hr : ((l.rows.map Row.kd).reverse)[i]? with
            | none => rw [hr] at hy; cases hy
            | some kk =>
              rw [hr] at hy; cases hy
              refine CT_one ?_
              ks_step "r"
              rw [lc_in]
              refine ite_bb (fun cc => ?_) fun cc => ?_
              · ks_step "r"
                exact ⟨rfl, by rw [List.take_add_one, hr]; simp [cc]⟩
              · exact ⟨rfl, by rw [List.take_add_one, hr]; simp [cc]⟩
          · rintro ys st₄ ⟨rfl, rfl⟩ C nC
            have e0 : (((l.rows.map Row.kd).reverse).take (((l.rows.map Row.kd).reverse).map kAv).length).filter lcK = (l.body.map Row.kd).reverse := by rw [List.length_map, List.take_length, kds_filter hlo]
            rw [e0]
            have hbl : l.body.length ≤ 1500 := by have := hll; simp only [Lot.rows, List.cons_append, List.length_cons, List.length_append] at this; omega
            refine BIN_addL (upd_old nC eM) upd_self (by simp [sizeLine]; omega) fun W2 nW2 => ?_
            have hAW2 : A ≠ W2 := ne_of (upd_old nC (kx₂ _ _ eA)) nW2
            have eW2 : upd (upd st₄ C (.list ((l.body.map Row.kd).reverse.map kAv))) W2 (.list ([AV.str "m"] ++ (l.body.map Row.kd).reverse.map kAv)) W2 = some (.list ((Kd.m :: (l.body.map Row.kd).reverse).map kAv)) := upd_self
            have kP₃ := upd_old (x := .list ([AV.str "m"] ++ (l.body.map Row.kd).reverse.map kAv)) nW2 (upd_old (x := .list ((l.body.map Row.kd).reverse.map kAv)) nC kP₂)
            have kx₃ := (kx₂.trans (Ext.new (o := .list ((l.body.map Row.kd).reverse.map kAv)) nC)).trans (Ext.new (o := .list ([AV.str "m"] ++ (l.body.map Row.kd).reverse.map kAv)) nW2)
            generalize upd (upd st₄ C (.list ((l.body.map Row.kd).reverse.map kAv))) W2 (.list ([AV.str "m"] ++ (l.body.map Row.kd).reverse.map kAv)) = st₅ at *
            clear nC nW2 nR nM eM eR kP₂ kx₂
            ks_step "r"
            refine ⟨_, _, rfl, kP₃, by simp only [List.length_map]; unfold sizeLine; omega, fun P2 nP2 => ?_⟩
            rw [← List.map_reverse]
            have hAP2 : A ≠ P2 := ne_of (kx₃ _ _ eA) nP2
            have eP2 : upd st₅ P2 (.list ((l.rows.flatMap Row.pts).reverse.map pav)) P2 = _ := upd_self
            have eW3 := upd_old (x := .list ((l.rows.flatMap Row.pts).reverse.map pav)) nP2 eW2
            have kx₄ := kx₃.trans (Ext.new (o := .list ((l.rows.flatMap Row.pts).reverse.map pav)) nP2)
            generalize upd st₅ P2 (.list ((l.rows.flatMap Row.pts).reverse.map pav)) = st₆ at *
            clear nP2 eW2 kP₃ kx₃
            have eA₆ := kx₄ _ _ eA
            ks_step "r"
            refine ES_ForE ?_
            ks_step "r"
            refine ⟨(Kd.m :: (l.body.map Row.kd).reverse).map kAv, fun j ρ₄ st₇ => ∃ fd ps Pn, ρ₄ "found" = some (.obj A) ∧ ρ₄ "is_closed" = some (.bool l.z) ∧ ρ₄ "points" = some (.obj Pn) ∧ st₇ Pn = some (.list (ps.map pav)) ∧ Pn ≠ A ∧ st₇ A = some (.list ((allRows ((lots.take i).map Lot.back) ++ fd).map Row.av)) ∧
              fd ++ build ((Kd.m :: (l.body.map Row.kd).reverse).drop j) ps = build (Kd.m :: (l.body.map Row.kd).reverse) (l.rows.flatMap Row.pts).reverse ∧ (((Kd.m :: (l.body.map Row.kd).reverse).drop j).map need).sum = ps.length ∧ ps.length ≤ 4500 ∧ fd.length ≤ j ∧ Ch A st₆ st₇ ∧ Ext st st₇,
              fun j ρ₄ st₇ hJ => ?_, ⟨[], (l.rows.flatMap Row.pts).reverse, P2, k1, rfl, rfl, eP2, ?_, by simpa using eA₆, rfl, ?_, ?_, Nat.le_refl _, Ch.refl, hx2.trans kx₄⟩, ?_, ?_, letGo_name⟩
            · obtain ⟨fd, ps, Pn, -, -, -, -, -, -, -, -, -, -, hc, -⟩ := hJ
              exact .list (hc _ _ hAW2.symm eW3)
            · exact hAP2.symm
            · rw [List.drop_zero, List.length_reverse]; exact need_lot hlo
            · rw [List.length_reverse]; omega
            · rintro j y ρ₄ st₇ hy ⟨fd, ps, Pn, m1, m2, m3, mP, mPA, mA, mb, mn, hpl, mf, mc, mx⟩
              rw [List.getElem?_map] at hy
              cases hk : (Kd.m :: (l.body.map Row.kd).reverse)[j]? with
              | none => rw [hk] at hy; cases hy
              | some k =>
                rw [hk] at hy; cases hy
                obtain ⟨hlt, hk'⟩ := List.getElem?_eq_some_iff.mp hk
                have hkz : k ≠ .z := by
                  rcases List.mem_cons.mp (List.mem_of_getElem? hk) with rfl | hm
                  · decide
                  · rw [List.mem_reverse] at hm
                    obtain ⟨r, hr, rfl⟩ := List.mem_map.mp hm
                    rcases hlo.2 r hr with e | e <;> rw [e] <;> decide
                rw [List.drop_eq_getElem_cons hlt, hk'] at mb mn
                rw [List.map_cons, List.sum_cons] at mn
                obtain ⟨r, hr1, hr2⟩ := build_step (ks := (Kd.m :: (l.body.map Row.kd).reverse).drop (j + 1)) hkz (show need k ≤ ps.length by omega)
                have hn3 : need k ≤ 3 := by cases k <;> decide
                have hbl : (allRows ((lots.take i).map Lot.back)).length ≤ 1500 := by
                  rw [back_rows_len _ fun x hx => hl x (List.mem_of_mem_take hx)]
                  exact Nat.le_trans (take_rows_len i lots) hz
                have hwl : j < 1501 := by
                  have := hlt
                  simp only [List.length_cons, List.length_reverse, List.length_map] at this
                  omega
                refine ⟨_, asg_name, ?_⟩
                intro Qn hQn
                ks_step "s"
                ks_step "s"
                refine VJ.mono (Q := fun v st' => v = .int ((need k : Nat) : Int) ∧ st₇ = st') ?_ ?_
                · ks_step "r"
                  rw [kd_c]
                  refine ite_bb (fun cc => ?_) fun cc => ?_
                  · ks_step "r"
                    exact ⟨by have : k = .c := by simpa using cc
                              subst this; rfl, rfl⟩
                  · ks_step "r"
                    exact ⟨by have : k ≠ .c := by simpa using cc
                              cases k <;> first | rfl | exact (this rfl).elim, rfl⟩
                rintro v st' ⟨rfl, rfl⟩
                ks_step "r"
                intro N nN
                have hAN := ne_of mA nN
                have hPN := ne_of mP nN
                have eN : upd st₇ N (.list [.str k.str]) N = some (.list (ledItems (fun p => p) k [])) := upd_self
                have mP' := upd_old (x := .list [.str k.str]) nN mP
                have mA' := upd_old (x := .list [.str k.str]) nN mA
                have mc' := mc.trans ((Ext.new (o := .list [.str k.str]) nN).ch A)
                have mx' := mx.trans (Ext.new (o := .list [.str k.str]) nN)
                have nN' : st N = none := by
                  cases e : st N with
                  | none => rfl
                  | some o => rw [mx _ _ e] at nN; cases nN
                have nN6 : st₆ N = none := by
                  cases e : st₆ N with
                  | none => rfl
                  | some o => rw [mc _ _ hAN.symm e] at nN; cases nN
                generalize upd st₇ N (.list [.str k.str]) = st₈ at *
                ks_step "r"
                refine ES_ForE ?_
                ks_step "r"
                refine ⟨_, _, (need k : Nat), rfl, mP', EV_nm ⟨_, rfl, rfl, rfl⟩, by omega, by simp [sizeLine]; omega, fun T nT => ?_⟩
                rw [Int.toNat_natCast, ← List.map_take]
                have eT : upd st₈ T (.list ((ps.take (need k)).map pav)) T = _ := upd_self
                have hNT := ne_of eN nT
                have hAT := ne_of mA' nT
                have hPT := ne_of mP' nT
                refine ⟨_, fun jj ρ₅ st₉ => ρ₅ "found" = some (.obj A) ∧ ρ₅ "is_closed" = some (.bool l.z) ∧ ρ₅ "points" = some (.obj Pn) ∧ ρ₅ "many" = some (.int ((need k : Nat) : Int)) ∧ ρ₅ "numbers" = some (.obj N) ∧ st₉ N = some (.list (ledItems (fun p => p) k ((ps.take (need k)).take jj))) ∧ st₉ A = some (.list ((allRows ((lots.take i).map Lot.back) ++ fd).map Row.av)) ∧ st₉ Pn = some (.list (ps.map pav)) ∧ st₉ T = some (.list ((ps.take (need k)).map pav)) ∧ Ch A st₆ st₉ ∧ Ext st st₉,
                  fun jj ρ₅ st₉ hJ => .list hJ.2.2.2.2.2.2.2.2.1, ⟨m1, m2, m3, rfl, rfl, upd_old nT eN, upd_old nT mA', upd_old nT mP', eT, mc'.trans ((Ext.new nT).ch A), mx'.trans (Ext.new nT)⟩, ?_, ?_, letGo_tup fun x hx => by obtain ⟨y, -, rfl⟩ := List.mem_map.mp hx; exact ⟨_, rfl⟩⟩
                · rintro jj y ρ₅ st₉ hy ⟨g1, g2, g3, g4, g5, gN, gA, gP, gT, gc, gx⟩
                  rw [List.getElem?_map] at hy
                  cases hq : (ps.take (need k))[jj]? with
                  | none => rw [hq] at hy; cases hy
                  | some q =>
                    rw [hq] at hy; cases hy
                    have hjl := (List.getElem?_eq_some_iff.mp hq).1
                    rw [List.length_take] at hjl
                    refine ⟨_, asg_two, ?_⟩
                    intro Qn hQn
                    ks_step "r"
                    refine ⟨_, _, rfl, gN, ?_⟩
                    ks_step "r"
                    intro E nE
                    refine ⟨_, _, _, rfl, upd_old nE gN, upd_self, by rw [led_len]; simp [sizeLine]; omega, ?_⟩
                    ks_step "r"
                    refine ⟨g1, g2, g3, g4, g5, ?_, upd_oth hAN (upd_old nE gA), upd_oth hPN (upd_old nE gP), upd_oth hNT.symm (upd_old nE gT), (gc.trans ((Ext.new nE).ch A)).mut nN6, (gx.trans (Ext.new nE)).mut nN'⟩
                    rw [upd_self, List.take_add_one, hq]
                    simp [ledItems]
                · rintro ρ₅ st₉ ⟨g1, g2, g3, g4, g5, gN, gA, gP, gT, gc, gx⟩
                  rw [List.length_map, List.take_length] at gN
                  ks_step "r"
                  refine ⟨_, _, rfl, gA, ?_⟩
                  ks_step "r"
                  refine C_tuple gN (by rw [led_len]; simp [sizeLine]; omega) ?_
                  ks_step "r"
                  refine ⟨_, gA, by simp only [List.length_map, List.length_append]; unfold sizeLine; omega, ?_⟩
                  rw [hr1]
                  have gA' : upd st₉ A (.list ((allRows ((lots.take i).map Lot.back) ++ fd).map Row.av ++ [r.av])) A = _ := upd_self
                  have gP' := upd_oth (x := .list ((allRows ((lots.take i).map Lot.back) ++ fd).map Row.av ++ [r.av])) mPA gP
                  have gc' := gc.trans (Ch.upd A (.list ((allRows ((lots.take i).map Lot.back) ++ fd).map Row.av ++ [r.av])))
                  have gx' := gx.mut (o := .list ((allRows ((lots.take i).map Lot.back) ++ fd).map Row.av ++ [r.av])) nA'
                  generalize upd st₉ A (.list ((allRows ((lots.take i).map Lot.back) ++ fd).map Row.av ++ [r.av])) = st₁₀ at *
                  ks_step "r"
                  refine .inl ⟨_, _, (need k : Nat), rfl, gP', EV_nm ⟨_, by assumption, rfl, rfl⟩, by omega, by simp [sizeLine]; omega, fun V nV => ?_⟩
                  rw [Int.toNat_natCast, ← List.map_drop]
                  ks_step "r"
                  refine ⟨fd ++ [r], ps.drop (need k), V, g1, g2, rfl, upd_self, (ne_of gA' nV).symm, by rw [upd_old nV gA']; simp, by rw [← mb, hr2]; simp, by rw [List.length_drop]; omega, by rw [List.length_drop]; omega, by simp; omega, gc'.trans ((Ext.new nV).ch A), gx'.trans (Ext.new nV)⟩
            · rintro ρ₄ st₇ ⟨fd, ps, Pn, m1, m2, m3, mP, mPA, mA, mb, mn, hpl, mf, mc, mx⟩
              rw [List.length_map, List.drop_length] at mb
              have eb : build [] ps = [] := by cases ps <;> rfl
              rw [eb, List.append_nil] at mb
              have hbb := back_build hlo.2
              rw [← mb] at hbb
              have hbl : (allRows ((lots.take i).map Lot.back)).length ≤ 1500 := by
                rw [back_rows_len _ fun x hx => hl x (List.mem_of_mem_take hx)]
                exact Nat.le_trans (take_rows_len i lots) hz
              have hfl : fd.length ≤ 1501 := by
                have := mf
                simp only [List.length_map, List.length_cons, List.length_reverse] at this
                omega
              have eT : (lots.take (i + 1)).map Lot.back = (lots.take i).map Lot.back ++ [l.back] := by rw [List.take_add_one, hli]; simp
              have fin : ∀ st₈ : St, Ch A st₇ st₈ → Ext st st₈ → st₈ A = some (.list ((allRows ((lots.take (i + 1)).map Lot.back)).map Row.av)) →
                  st₈ A = some (.list ((allRows ((lots.take (i + 1)).map Lot.back)).map Row.av)) ∧ st₈ X = some (.list (gs.map gAv)) ∧ (∀ x ∈ gs, st₈ x.1 = some (.list (x.2.map Row.av))) ∧ Ext st st₈ := fun st₈ hc hx e =>
                ⟨e, hc _ _ hXA (mc _ _ hXA (kx₄ _ _ eX)), fun x hxm => hc _ _ (hgA x hxm) (mc _ _ (hgA x hxm) (kx₄ _ _ (eg x hxm))), hx⟩
              ks_step "r"
              refine TJ_value ?_
              ks_step "r"
              cases hzz : l.z with
              | true =>
                rw [hzz] at hbb m2
                ks_step "r"
                refine ⟨_, _, rfl, mA, ?_⟩
                ks_step "r"
                refine ⟨_, mA, by simp only [List.length_map, List.length_append]; unfold sizeLine; omega, ?_⟩
                ks_step "r"
                refine ⟨m1, fin _ (Ch.upd A _) (mx.mut nA') ?_⟩
                rw [upd_self, eT]
                simp only [allRows, List.flatMap_append, List.flatMap_cons, List.flatMap_nil, List.append_nil, ← hbb]
                simp [zRows, Row.av]
              | false =>
                rw [hzz] at hbb m2
                ks_step "r"
                refine ⟨m1, fin _ Ch.refl mx ?_⟩
                rw [mA, eT]
                simp only [allRows, List.flatMap_append, List.flatMap_cons, List.flatMap_nil, List.append_nil, ← hbb]
                simp [zRows]
    · rintro ρ' st'' ⟨h2, eA, eX, eg, hx2⟩
      rw [List.length_map, hlen, List.take_length] at eA
      ks_step "r"
      exact h A st'' hx2 nA' eA
end

/-! PL4 -/
section


theorem rest_sub : ∀ (ms fs : List Row), fs.Sublist ms → rest fs ms = []
  | [], fs, h => by rw [List.sublist_nil] at h; subst h; rfl
  | r :: ms, [], _ => rest_nil _
  | r :: ms, f :: fs, h => by
    unfold rest
    split
    · rename_i e; subst e
      exact rest_sub ms fs (List.cons_sublist_cons.mp h)
    · rename_i e
      refine rest_sub ms (f :: fs) ?_
      cases h with
      | cons _ h => exact h
      | cons_cons _ h => exact (e rfl).elim
theorem rev_pts (B : Pt → Prop) : ∀ (rs : List Row) (h : Pt) (acc : List Row), Bodies rs → B h → (∀ r ∈ rs, ∀ p ∈ r.pts, B p) → (∀ r ∈ acc, ∀ p ∈ r.pts, B p) → B (rev h rs acc).1 ∧ ∀ r ∈ (rev h rs acc).2, ∀ p ∈ r.pts, B p
  | [], _, _, _, hh, _, ha => ⟨hh, ha⟩
  | .m _ :: _, _, _, hb, _, _, _ => by rcases hb _ (.head _) with e | e <;> cases e
  | .z :: _, _, _, hb, _, _, _ => by rcases hb _ (.head _) with e | e <;> cases e
  | .l p :: rs, h, acc, hb, hh, hr, ha => by
    have hp := hr _ (.head _)
    refine rev_pts B rs p (.l h :: acc) hb.tail (hp p (by simp [Row.pts])) (fun r hm => hr r (.tail _ hm)) fun r hm => ?_
    rcases List.mem_cons.mp hm with rfl | hm
    · intro x hx; simp only [Row.pts, List.mem_singleton] at hx; subst hx; exact hh
    · exact ha r hm
  | .c p q s :: rs, h, acc, hb, hh, hr, ha => by
    have hp := hr _ (.head _)
    refine rev_pts B rs s (.c q p h :: acc) hb.tail (hp s (by simp [Row.pts])) (fun r hm => hr r (.tail _ hm)) fun r hm => ?_
    rcases List.mem_cons.mp hm with rfl | hm
    · intro x hx
      simp only [Row.pts, List.mem_cons, List.not_mem_nil, or_false] at hx
      rcases hx with rfl | rfl | rfl
      · exact hp _ (by simp [Row.pts])
      · exact hp _ (by simp [Row.pts])
      · exact hh
    · exact ha r hm
theorem z_pts (B : Pt → Prop) (z : Bool) : ∀ r ∈ zRows z, ∀ p ∈ r.pts, B p := by
  intro r hr
  unfold zRows at hr; split at hr
  · rw [List.mem_singleton] at hr; subst hr; intro p hp; cases hp
  · cases hr
theorem back_pts (B : Pt → Prop) {lots : List Lot} (h : ∀ l ∈ lots, LotOk l) (ha : ∀ r ∈ allRows lots, ∀ p ∈ r.pts, B p) : ∀ r ∈ allRows (lots.map Lot.back), ∀ p ∈ r.pts, B p := by
  intro r hr
  obtain ⟨l', hl', hr⟩ := List.mem_flatMap.mp hr
  obtain ⟨l, hl, rfl⟩ := List.mem_map.mp hl'
  have hl2 : ∀ r ∈ l.rows, ∀ p ∈ r.pts, B p := fun r hr => ha r (List.mem_flatMap.mpr ⟨l, hl, hr⟩)
  obtain ⟨h1, h2⟩ := rev_pts B l.body l.p [] (h l hl).2 (hl2 (.m l.p) (by simp [Lot.rows]) _ (by simp [Row.pts])) (fun r hr => hl2 r (by simp [Lot.rows, hr])) (fun _ hr => nomatch hr)
  simp only [Lot.rows, Lot.back] at hr
  rcases List.mem_append.mp hr with hr | hr
  · rcases List.mem_cons.mp hr with rfl | hr
    · intro x hx; simp only [Row.pts, List.mem_singleton] at hx; subst hx; exact h1
    · exact h2 r hr
  · exact z_pts B _ r hr
theorem map_pts (f : Pt → Pt) (r : Row) : (r.map f).pts = r.pts.map f := by cases r <;> rfl
theorem small_half (p q : Pt) (hp : Small p) (hq : Small q) : Small (half p q) := by
  obtain ⟨a, b⟩ := hp
  obtain ⟨c, d⟩ := hq
  unfold Small half
  simp only [fdiv2]
  omega

/-- the units, and how flat -/
structure Unit_ (u fl : Int) : Prop where
  uu : u = 0 ∨ u = 50 ∨ u = 7001 ∨ u = 1000000
  f0 : 0 ≤ fl
  f1 : fl ≤ 4000000
  fu : u ≠ 0 → u ≤ 3 * fl + 2
theorem Unit_.le {u fl : Int} (U : Unit_ u fl) : 0 ≤ u ∧ u ≤ 1000000 := by
  rcases U.uu with e | e | e | e <;> subst e <;> decide
theorem box_small {u : Int} {p : Pt} (h0 : 0 ≤ u) (h1 : u ≤ 1000000) (h : Box u p) : (-(8 * 1000000) ≤ p.1 ∧ p.1 ≤ 8 * 1000000) ∧ (-(8 * 1000000) ≤ p.2 ∧ p.2 ≤ 8 * 1000000) := by
  obtain ⟨⟨a1, a2⟩, b1, b2⟩ := h
  by_cases hu : u = 0
  · have := a1 hu; have := b1 hu; omega
  · have := a2 hu; have := b2 hu; omega
theorem ends_unit {u fl : Int} (U : Unit_ u fl) (q : Quad) (ha : Box u q.a) (hb : Box u q.b) (hc : Box u q.c) (hd : Box u q.d) : (ends 10 q fl).length ≤ if u = 0 then 1024 else 256 := by
  by_cases hu : u = 0
  · rw [if_pos hu]; exact ends_len 10 q fl
  · rw [if_neg hu]
    have hB : q.Bd (32 * u) := by
      have a1 := ha.1.2 hu; have b1 := hb.1.2 hu; have c1 := hc.1.2 hu; have d1 := hd.1.2 hu
      have a2 := ha.2.2 hu; have b2 := hb.2.2 hu; have c2 := hc.2.2 hu; have d2 := hd.2.2 hu
      exact ⟨⟨by omega, by omega, by omega, by omega⟩, ⟨by omega, by omega, by omega, by omega⟩⟩
    refine ends_bd 8 10 q (32 * u) hB ?_
    have hf := U.fu hu
    rcases U.uu with e | e | e | e
    · exact (hu e).elim
    · subst e
      have h : (16 : Int) * 16 ≤ fl * fl := Int.mul_le_mul (by omega) (by omega) (by decide) (by omega)
      have e : bdIt 8 (32 * 50) = 2 := by decide
      rw [e]; omega
    · subst e
      have h : (2333 : Int) * 2333 ≤ fl * fl := Int.mul_le_mul (by omega) (by omega) (by decide) (by omega)
      have e : bdIt 8 (32 * 7001) = 5 := by decide
      rw [e]; omega
    · subst e
      have h : (333332 : Int) * 333332 ≤ fl * fl := Int.mul_le_mul (by omega) (by omega) (by decide) (by omega)
      have e : bdIt 8 (32 * 1000000) = 490 := by decide
      rw [e]; omega

section
variable {u fl : Int} {lots : List Lot}
theorem Drawn.ok (D : Drawn u lots) : ∀ l ∈ lots, LotOk l := fun l hl => D.body l hl
theorem Drawn.pts (D : Drawn u lots) : ∀ r ∈ allRows lots, ∀ p ∈ r.pts, Box u p := fun r hr => by
  obtain ⟨l, hl, hr⟩ := List.mem_flatMap.mp hr
  exact D.box l hl r hr
theorem Drawn.small (D : Drawn u lots) (U : Unit_ u fl) : ∀ r ∈ allRows lots, r.Small := fun r hr p hp => by
  have := box_small U.le.1 U.le.2 (D.pts r hr p hp)
  unfold Small
  omega
theorem Drawn.len (D : Drawn u lots) : (allRows lots).length ≤ 7 := by
  have := lots_len lots
  have := D.cnt
  have := D.two
  omega
theorem Drawn.lenT (D : Drawn u lots) (U : Unit_ u fl) : (allRows (lots.map (Lot.flat fl))).length ≤ 1100 := by
  have h1 := told_len fl (if u = 0 then 1024 else 256) (by split <;> decide) (Box u) (ends_unit U) lots D.ok D.pts
  have h2 := lots_len (lots.map (Lot.flat fl))
  have h3 := D.two
  have h4 := D.cnt
  have h5 := D.one
  rw [List.length_map] at h2
  split at h1
  · have := h5 (by assumption); omega
  · omega
theorem told_rows (fl : Int) (lots : List Lot) : flat fl (allRows lots) = allRows (lots.map (Lot.flat fl)) := flat_lots fl lots none
theorem Unit_.abs (U : Unit_ u fl) : fl.natAbs ≤ 2 ^ 40 := by have := U.f0; have := U.f1; omega
theorem Drawn.flatOk (D : Drawn u lots) (U : Unit_ u fl) : FlatOk fl (allRows lots) :=
  flatOk_of D.ok (D.small U) U.abs (by have := D.len; omega) (by have := D.lenT U; omega)
theorem Drawn.toldLots (D : Drawn u lots) : ∀ l ∈ lots.map (Lot.flat fl), LotOk l := fun l hl => by
  obtain ⟨l', hl', rfl⟩ := List.mem_map.mp hl
  exact (D.ok l' hl').flat fl
theorem Drawn.toldOk (D : Drawn u lots) (U : Unit_ u fl) : FlatOk fl (allRows (lots.map (Lot.flat fl))) := by
  refine flatOk_of D.toldLots ?_ U.abs (by have := D.lenT U; omega) ?_
  · rw [← told_rows]
    exact told_pts Small small_half (D.small U)
  · rw [← told_rows fl (lots.map (Lot.flat fl)), flat_flat D.ok]
    have := D.lenT U; omega
theorem Drawn.backOk (D : Drawn u lots) (U : Unit_ u fl) : FlatOk fl (allRows (lots.map Lot.back)) := by
  refine flatOk_of (fun l hl => ?_) (back_pts Small D.ok (D.small U)) U.abs ?_ ?_
  · obtain ⟨l', hl', rfl⟩ := List.mem_map.mp hl
    exact (D.ok l' hl').back
  · rw [back_rows_len _ D.ok]; have := D.len; omega
  · rw [← told_rows, flat_back fl D.ok, back_rows_len _ D.toldLots]
    have := D.lenT U; omega
theorem Drawn.ledOk (D : Drawn u lots) (U : Unit_ u fl) {f : Pt → Pt} (hs : ∀ p, Box u p → Small (f p)) (hh : ∀ p q, half (f p) (f q) = f (half p q)) (hf : ∀ (q : Quad) fl, (q.map f).flat fl = q.flat fl) : FlatOk fl ((allRows lots).map (Row.map f)) := by
  rw [← lots_map_rows]
  refine flatOk_of (fun l hl => ?_) ?_ U.abs ?_ ?_
  · obtain ⟨l', hl', rfl⟩ := List.mem_map.mp hl
    exact (D.ok l' hl').map f
  · rw [lots_map_rows]
    intro r hr p hp
    obtain ⟨r', hr', rfl⟩ := List.mem_map.mp hr
    rw [map_pts] at hp
    obtain ⟨p', hp', rfl⟩ := List.mem_map.mp hp
    exact hs _ (D.pts r' hr' p' hp')
  · rw [lots_map_rows, List.length_map]; have := D.len; omega
  · rw [flat_led hh hf, List.length_map]; have := D.lenT U; omega
theorem Drawn.flatLed (_D : Drawn u lots) {f : Pt → Pt} (hh : ∀ p q, half (f p) (f q) = f (half p q)) (hf : ∀ (q : Quad) fl, (q.map f).flat fl = q.flat fl) : flat fl ((allRows lots).map (Row.map f)) = (allRows (lots.map (Lot.flat fl))).map (Row.map f) := by
  rw [← lots_map_rows, told_rows, flat_led hh hf]
theorem Drawn.among (_D : Drawn u lots) {fn : Int} (h0 : 0 ≤ fn) (h1 : fn ≤ fl) : rest (allRows (lots.map (Lot.flat fl))) (flat fn (allRows lots)) = [] := by
  rw [← told_rows]
  exact rest_sub _ _ (flat_finer h0 h1 _ _)
theorem small_move {x y : Int} (U : Unit_ u fl) (hx : x.natAbs ≤ 1000001) (hy : y.natAbs ≤ 1000001) : ∀ p, Box u p → Small (moveBy x y p) := fun p h => by
  have := box_small U.le.1 U.le.2 h
  unfold Small moveBy
  dsimp only
  omega
theorem small_swap (U : Unit_ u fl) : ∀ p, Box u p → Small (swapPt p) := fun p h => by
  have := box_small U.le.1 U.le.2 h
  unfold Small swapPt
  dsimp only
  omega
end
end

/-! C20 -/
section

variable {w : World} {b : Heap} {lev : Nat} {sc : Scope} {ρ : Ren} {st : St}
local macro_rules | `(tactic| ks_step "c") => `(tactic| ((with_reducible refine' EV_CallLed (by assumption) ?g ?k ?h1 ?h2 ?h3 ?_); (case g => k_is); (case k => k_is); (case h1 => ks_step "look"); (case h2 => ks_step "look"); (case h3 => ks_step "look")))

noncomputable abbrev LawQ : AFlow → Ren → St → Prop := fun fl _ st' => fl = .ret (.bool true) ∧ ∃ ps, st' 314 = some (.raw (tabObj ps))

theorem law_tail (G : Gd w b) (LB : LamBase b 316 314) {A : Addr} {lots : List Lot} {u fl fn ax up : Int} {cl : List (Str × Addr)} (D : Drawn u lots) (U : Unit_ u fl) (Un : Unit_ u fn) (hfn : fn ≤ fl) (hax : ax.natAbs ≤ 1000001) (hup : up.natAbs ≤ 1000001)
    (r1 : ρ "rows" = some (.obj A)) (r2 : ρ "flatness" = some (.int fl)) (r3 : ρ "finer" = some (.int fn)) (r4 : ρ "across" = some (.int ax)) (r5 : ρ "up" = some (.int up)) (r6 : ρ "<cl>" = some (.cells cl (.ref 316)))
    (eA : st A = some (.list ((allRows lots).map Row.av))) (eP : st 314 = some (.raw (tabObj #[]))) : LawOk w b 12 7 ρ st LawQ := by
  have hR : (allRows lots).length ≤ 1500 := by have := D.len; omega
  have hT : (allRows (lots.map (Lot.flat fl))).length ≤ 1500 := by have := D.lenT U; omega
  ks_step "fill"
  show LawOk _ _ _ _ _ _ _
  refine' LawOk.intro ?ho ?hbs ?_
  case ho => k_is
  case hbs => conv => lhs; whnf
  ks_step "r"
  refine CodeOk.at (law_flat_ok G eA (D.flatOk U) fun T st₁ x₁ nT eT => ?_)
  rw [told_rows] at eT
  have eA₁ := x₁ _ _ eA
  ks_step "r"
  refine CodeOk.at (one_ok G eA₁ (D.flatOk U) fun B st₂ x₂ nB eB => ?_)
  rw [told_rows] at eB
  have eA₂ := x₂ _ _ eA₁
  have eT₂ := x₂ _ _ eT
  ks_step "r"
  refine CMP_ne_list eT₂ eB (rows_dat _) (rows_dat _) ?_
  rw [beqs_self]
  ks_step "r"
  refine CodeOk.at (law_flat_ok G eT₂ (D.toldOk U) fun C st₃ x₃ nC eC => ?_)
  rw [flat_flat D.ok] at eC
  have eA₃ := x₃ _ _ eA₂
  have eT₃ := x₃ _ _ eT₂
  ks_step "r"
  refine CMP_ne_list eC eT₃ (rows_dat _) (rows_dat _) ?_
  rw [beqs_self]
  ks_step "r"
  refine CodeOk.at (back_ok G eA₃ hR D.ok fun E st₄ x₄ nE eE => ?_)
  have eA₄ := x₄ _ _ eA₃
  have eT₄ := x₄ _ _ eT₃
  ks_step "r"
  refine CodeOk.at (law_flat_ok G eE (D.backOk U) fun F st₅ x₅ nF eF => ?_)
  rw [flat_back fl D.ok] at eF
  have eA₅ := x₅ _ _ eA₄
  have eT₅ := x₅ _ _ eT₄
  ks_step "r"
  refine CodeOk.at (back_ok G eT₅ hT D.toldLots fun H st₆ x₆ nH eH => ?_)
  have eA₆ := x₆ _ _ eA₅
  have eT₆ := x₆ _ _ eT₅
  have eF₆ := x₆ _ _ eF
  have eP₆ := x₆ _ _ (x₅ _ _ (x₄ _ _ (x₃ _ _ (x₂ _ _ (x₁ _ _ eP)))))
  ks_step "r"
  refine CMP_ne_list eF₆ eH (rows_dat _) (rows_dat _) ?_
  rw [beqs_self]
  clear x₁ x₂ x₃ x₄ x₅ x₆ nT nB nC nE nF nH eB eC eE eF eF₆ eH eA₁ eA₂ eA₃ eA₄ eA₅ eT eT₂ eT₃ eT₄ eT₅ eP eA
  ks_step "r"
  refine ES_ForE ?_
  ks_step "r"
  refine EV_Lambda (c := 316) (P := 314) (by assumption) LB eP₆ (by kn_triples) (by kn_among) ?hf ?_
  case hf =>
    intro x hx
    simp only [List.mem_cons, Prod.mk.injEq, reduceCtorEq, and_false, false_or, and_true, List.not_mem_nil, or_false] at hx
    rcases hx with rfl | rfl
    · exact ⟨_, r4, by with_unfolding_all rfl⟩
    · exact ⟨_, r5, by with_unfolding_all rfl⟩
  intro a1 c1 st₇ L1 eP₇ ch₇ n1 un₇
  ks_step "r"
  refine EV_Lambda (c := 316) (P := 314) (by assumption) LB eP₇ (by kn_triples) (by kn_among) ?hf ?_
  case hf =>
    intro x hx
    simp only [List.mem_cons, Prod.mk.injEq, reduceCtorEq, and_false, false_or, and_true, List.not_mem_nil, or_false] at hx
  intro a2 c2 st₈ L2 eP₈ ch₈ n2 un₈
  have hA : A ≠ 314 := fun q => by subst q; rw [eA₆] at eP₆; cases eP₆
  have hTn : T ≠ 314 := fun q => by subst q; rw [eT₆] at eP₆; cases eP₆
  have eA₈ := ch₈ _ _ hA (ch₇ _ _ hA eA₆)
  have eT₈ := ch₈ _ _ hTn (ch₇ _ _ hTn eT₆)
  have K1 : LeadOk w b cl ax up st₈ a1 (moveBy ax up) := by
    refine ⟨(L1 _ ch₈).ob, fun b' G' m C' st' x p Q' q => CODE_lam G' m (twoCells ax up) "x" "y" C' ((L1 _ ch₈).ext x) ?_ ?_ ?_ ?_ ?_ ?_ ?_ ?_ ?_ ?_ ?_⟩
    · ks_step "r"
      exact q
    · intro x hx
      simp only [List.mem_cons, Prod.mk.injEq, reduceCtorEq, and_false, false_or, and_true, List.not_mem_nil, or_false] at hx
      rcases hx with rfl | rfl
      · exact ⟨("across", ax), by simp, rfl⟩
      · exact ⟨("up", up), by simp, rfl⟩
    · intro p hp
      rcases List.mem_cons.mp hp with rfl | hp
      · with_unfolding_all rfl
      · rw [List.mem_singleton] at hp; subst hp; with_unfolding_all rfl
    · with_unfolding_all rfl
    · with_unfolding_all rfl
    · decide
    · intros; with_unfolding_all rfl
    · decide
    · rfl
    · rfl
    · rfl
  have K2 : LeadOk w b cl ax up st₈ a2 swapPt := by
    refine ⟨(L2 _ Ch.refl).ob, fun b' G' m C' st' x p Q' q => CODE_lam (cl := cl) G' m [] "x" "y" (fun _ h => nomatch h) ((L2 _ Ch.refl).ext x) ?_ ?_ (fun _ h => nomatch h) ?_ ?_ ?_ ?_ ?_ ?_ ?_ ?_⟩
    · ks_step "r"
      exact q
    · intro x hx
      simp only [List.mem_cons, Prod.mk.injEq, reduceCtorEq, and_false, false_or, and_true, List.not_mem_nil, or_false] at hx
    · with_unfolding_all rfl
    · with_unfolding_all rfl
    · decide
    · intros; with_unfolding_all rfl
    · decide
    · rfl
    · rfl
    · rfl
  clear L1 L2 ch₇ ch₈ n1 n2 un₇ un₈ eP₆ eP₇ eA₆ eT₆
  ks_step "r"
  refine ⟨[.obj a1, .obj a2], fun i ρ' st' => ρ' "rows" = some (.obj A) ∧ ρ' "flatness" = some (.int fl) ∧ ρ' "finer" = some (.int fn) ∧ ρ' "told" = some (.obj T) ∧ ρ' "across" = some (.int ax) ∧ ρ' "up" = some (.int up) ∧ ρ' "<cl>" = some (.cells cl (.ref 316)) ∧ Ext st₈ st',
    fun i ρ' st' _ => .tup _, ⟨r1, r2, r3, rfl, r4, r5, r6, Ext.refl⟩, ?_, ?_, letGo_name⟩
  · rintro i y ρ' st' hy ⟨q1, q2, q3, q4, q5, q6, q7, ex⟩
    obtain ⟨L, f, rfl, hL, hs, hh, hf⟩ : ∃ L f, y = .obj L ∧ LeadOk w b cl ax up st' L f ∧ (∀ p, Box u p → Small (f p)) ∧ (∀ p q, half (f p) (f q) = f (half p q)) ∧ (∀ (q : Quad) fl, (q.map f).flat fl = q.flat fl) := by
      match i, hy with
      | 0, hy => cases hy; exact ⟨a1, moveBy ax up, rfl, K1.ext ex, small_move U hax hup, half_move ax up, flat_move ax up⟩
      | 1, hy => cases hy; exact ⟨a2, swapPt, rfl, K2.ext ex, small_swap U, half_swap, flat_swap⟩
    obtain ⟨o, fd, e1, e2⟩ := hL.ob
    have eA₉ := ex _ _ eA₈
    have eT₉ := ex _ _ eT₈
    refine ⟨_, asg_name, ?_⟩
    intro Qn hQn
    ks_step "r"
    intro b' G' m C'
    refine CodeOk.at (led_ok G' eA₉ hR e1 e2 (hL.run b' G' m C') fun E st₄ x₄ nE eE => ?_)
    ks_step "r"
    refine CodeOk.at (law_flat_ok G eE (D.ledOk U hs hh hf) fun F st₅ x₅ nF eF => ?_)
    rw [D.flatLed hh hf] at eF
    have x₄₅ := x₄.trans x₅
    ks_step "r"
    intro b' G' m C'
    refine CodeOk.at (led_ok G' (x₄₅ _ _ eT₉) hT (x₄₅ _ _ e1) e2 ((hL.ext x₄₅).run b' G' m C') fun H st₆ x₆ nH eH => ?_)
    ks_step "r"
    refine CMP_ne_list (x₆ _ _ eF) eH (rows_dat _) (rows_dat _) ?_
    rw [beqs_self]
    ks_step "r"
    exact ⟨q1, q2, q3, q4, q5, q6, q7, (ex.trans x₄₅).trans x₆⟩
  · rintro ρ' st' ⟨q1, q2, q3, q4, q5, q6, q7, ex⟩
    have eA₉ := ex _ _ eA₈
    have eT₉ := ex _ _ eT₈
    have eP₉ := ex _ _ eP₈
    ks_step "r"
    refine CodeOk.at (law_flat_ok G eA₉ (D.flatOk Un) fun N st₄ x₄ nN eN => ?_)
    have eT₁ := x₄ _ _ eT₉
    have eP₁ := x₄ _ _ eP₉
    ks_step "r"
    refine EV_And2 ?_
    ks_step "r"
    refine CodeOk.at (lies_ok G eT₁ eN hT ?_)
    rw [D.among Un.f0 hfn]
    exact ⟨rfl, _, eP₁⟩
end

/-! C21 -/
section

variable {w : World} {b : Heap} {lev : Nat} {sc : Scope} {ρ : Ren} {st : St}
noncomputable def Stop (P : Prop) : Prop := P
theorem EV_IfStop {t x y : Expr} {pos : Pos} {Q : AV → St → Prop} (h : Stop (EV w b lev sc ρ (.IfExp t x y pos) st Q)) : EV w b lev sc ρ (.IfExp t x y pos) st Q := h
local macro_rules | `(tactic| ks_step "s") => `(tactic| with_reducible refine EV_IfStop ?_)

theorem LawOk.use {n : Nat} {Q : AFlow → Ren → St → Prop} {name qual : Str} {params : Arguments} {body bs : List Stmt} {scope : Scope} {dV kV doc pm cdv ct oc : Value} {an od : Option Addr} {osl : Array (Option Value)} (H : LawOk w b lev n ρ st Q)
    (ho : (hd.heap_1 w.params).lookup 317 = some ⟨oc, od, .func (fnOf name qual params body scope dV kV doc pm an cdv ct), osl⟩) (hbs : body.drop n = bs) : EX w b lev scope ρ bs st Q := hbs ▸ H ho

theorem fdiv_in {fl r u : Int} (h0 : 0 ≤ fl) (r0 : 0 ≤ r) (r1 : r < 3) (hu : u ≤ fl) : 0 ≤ fl.fdiv (1 + r) ∧ fl.fdiv (1 + r) ≤ fl ∧ u ≤ 3 * fl.fdiv (1 + r) + 2 := by
  rw [Int.fdiv_eq_ediv_of_nonneg _ (by omega)]
  rcases (show r = 0 ∨ r = 1 ∨ r = 2 by omega) with rfl | rfl | rfl
  · show 0 ≤ fl / 1 ∧ fl / 1 ≤ fl ∧ u ≤ 3 * (fl / 1) + 2; omega
  · show 0 ≤ fl / 2 ∧ fl / 2 ≤ fl ∧ u ≤ 3 * (fl / 2) + 2; omega
  · show 0 ≤ fl / 3 ∧ fl / 3 ≤ fl ∧ u ≤ 3 * (fl / 3) + 2; omega
theorem mul_in {r u : Int} (u0 : 0 ≤ u) (u1 : u ≤ 1000000) (r0 : 0 ≤ r) (r1 : r < 4) : u ≤ (1 + r) * u ∧ (1 + r) * u ≤ 4000000 := by
  rcases (show r = 0 ∨ r = 1 ∨ r = 2 ∨ r = 3 by omega) with rfl | rfl | rfl | rfl <;> omega

theorem units_rep {h : Heap} {t1 t2 t3 : Tok} {n : Nat} (e : (hd.heap_1 w.params).lookup 252 = some (tupO [.int 50 t1, .int 7001 t2, .int 1000000 t3] n) → h.get? 252 = some (tupO [.int 50 t1, .int 7001 t2, .int 1000000 t3] n))
    (hk : (hd.heap_1 w.params).lookup 252 = some (tupO [.int 50 t1, .int 7001 t2, .int 1000000 t3] n)) : Rep h (.ref 252) (.tup [.int 50, .int 7001, .int 1000000]) :=
  .tup (e hk) (.cons (.int _ _) (.cons (.int _ _) (.cons (.int _ _) .nil)))

theorem law_head (G : Gd w b) (LB : LamBase b 316 314) {S : Addr} {vs : List Value} {ws : List Int} {cl : List (Str × Addr)} (hS : b.IsList S (List.toArray vs)) (hI : IntsAre vs ws) (hl : ws.length ≤ 63)
    (r0 : ρ "script" = some (.obj S)) (r6 : ρ "<cl>" = some (.cells cl (.ref 316))) (eP : st 314 = some (.raw (tabObj #[]))) : LawOk w b 12 0 ρ st LawQ := by
  ks_step "fill"
  show LawOk _ _ _ _ _ _ _
  refine' LawOk.intro ?ho ?hbs ?_
  case ho => k_is
  case hbs => conv => lhs; whnf
  ks_step "r"
  refine EV_CompE ?_
  refine EV_SliceToB ?_
  ks_step "r"
  refine ⟨S, vs, ws, 63, rfl, hS, hI, EV_int ⟨rfl, rfl⟩, by decide, by unfold sizeLine; omega, fun C nC => ?_⟩
  have e63 : (ws.map AV.int).take (63 : Int).toNat = ws.map AV.int := List.take_of_length_le (by rw [List.length_map]; exact hl)
  rw [e63]
  have eC : upd st C (.list (ws.map .int)) C = _ := upd_self
  have eP₁ := upd_old (x := .list (ws.map .int)) nC eP
  generalize upd st C (.list (ws.map .int)) = st₁ at *
  refine ⟨ws.map .int, fun i ys st' => st' = st₁ ∧ ys = ((ws.take i).map fun x => x.fmod (10 ^ 60)).map .int, fun i ys st' hJ => by obtain ⟨rfl, -⟩ := hJ; exact .list eC, ⟨rfl, rfl⟩, by rw [List.length_map]; unfold sizeLine; omega, ?_, ?_⟩
  · rintro i y ys st' hy ⟨rfl, rfl⟩
    rw [List.getElem?_map] at hy
    cases hr : ws[i]? with
    | none => rw [hr] at hy; cases hy
    | some x =>
      rw [hr] at hy; cases hy
      refine CT_nil (ite_tt rfl ?_)
      ks_step "r"
      refine C_int ?_
      ks_step "r"
      refine BIN_fmod (by decide) ?_
      exact ⟨rfl, by rw [List.take_add_one, hr]; simp⟩
  rintro ys st' ⟨rfl, rfl⟩ L nL
  rw [List.length_map, List.take_length]
  have eL : upd st' L (.list ((ws.map fun x => x.fmod (10 ^ 60)).map .int)) L = _ := upd_self
  have eP₂ := upd_old (x := .list ((ws.map fun x => x.fmod (10 ^ 60)).map .int)) nL eP₁
  generalize upd st' L (.list ((ws.map fun x => x.fmod (10 ^ 60)).map .int)) = st₂ at *
  clear eC nC eP₁ nL
  ks_step "r"
  intro t nt
  have hdp : ∀ d ∈ ws.map fun x => x.fmod (10 ^ 60), (0 : Int) ≤ d := fun d hd => by
    obtain ⟨x, -, rfl⟩ := List.mem_map.mp hd
    exact Int.fmod_nonneg_of_pos x (by decide)
  have T : Tape (upd st₂ t (.list [.obj L, .int 0])) t 0 := ⟨L, _, 0, upd_self, upd_old nt eL, ne_of eL nt, hdp, by rw [List.length_map]; exact hl, by decide, by decide⟩
  have eP₃ := upd_old (x := .list [.obj L, .int 0]) nt eP₂
  have tP : 314 ≠ t := ne_of eP₂ nt
  generalize upd st₂ t (.list [.obj L, .int 0]) = st₃ at *
  clear eP₂ eL nt hdp
  ks_step "r"
  refine CodeOk.at (draw_ok G T (by decide) (by decide) (by decide) fun r st₄ a0 a1 T₄ ch₄ => ?_)
  have eP₄ := ch₄ _ _ tP eP₃
  clear T ch₄ eP₃
  ks_step "r"
  generalize AV.beq (.int r) (.int 3) = sm
  refine VJ.mono (Q := fun v st' => ∃ u, v = .int u ∧ (sm = true → u = 0) ∧ (sm = false → u = 50 ∨ u = 7001 ∨ u = 1000000) ∧ Tape st' t 10 ∧ st' 314 = some (.raw (tabObj #[]))) (show EV _ _ _ _ _ _ _ _ from ?_) ?_
  · refine EV_IfExp ?_
    refine TJ_value ?_
    ks_step "r"
    cases sm with
    | true =>
      ks_step "r"
      exact ⟨0, rfl, fun _ => rfl, (fun e => by cases e), T₄.le (by decide), eP₄⟩
    | false =>
      ks_step "r"
      refine EV_glob (v := .ref 252) (av := .tup [.int 50, .int 7001, .int 1000000]) G ?g (fun h e => ?r) ?_
      case g => k_is
      case r =>
        refine' units_rep (fun hk => e _ _ (G.X _ _ hk)) ?hk
        case hk => k_is
      ks_step "r"
      refine CodeOk.at (draw_ok G T₄ (by decide) (by decide) (by decide) fun r' st₅ c0 c1 T₅ ch₅ => ?_)
      have eP₅ := ch₅ _ _ tP eP₄
      rcases (show r' = 0 ∨ r' = 1 ∨ r' = 2 by omega) with rfl | rfl | rfl
      · ks_step "r"
        exact ⟨50, rfl, (fun e => by cases e), fun _ => .inl rfl, T₅.le (by decide), eP₅⟩
      · ks_step "r"
        exact ⟨7001, rfl, (fun e => by cases e), fun _ => .inr (.inl rfl), T₅.le (by decide), eP₅⟩
      · ks_step "r"
        exact ⟨1000000, rfl, (fun e => by cases e), fun _ => .inr (.inr rfl), T₅.le (by decide), eP₅⟩
  rintro v st₅ ⟨u, rfl, us, ub, T₅, eP₅⟩
  clear T₄ eP₄
  have u01 : 0 ≤ u ∧ u ≤ 1000000 := by
    cases sm with
    | true => have := us rfl; omega
    | false => have := ub rfl; omega
  ks_step "r"
  refine CodeOk.at (drawn_ok G T₅ (by decide) u01.1 u01.2 fun A lots st₆ D eA nAt nA T₆ ch₆ => ?_)
  have eP₆ := ch₆ _ _ tP eP₅
  clear T₅ ch₆ eP₅
  ks_step "r"
  refine VJ.mono (Q := fun v st' => ∃ fl, v = .int fl ∧ Unit_ u fl ∧ u ≤ fl ∧ Tape st' t 1000 ∧ st' 314 = some (.raw (tabObj #[])) ∧ st' A = some (.list ((allRows lots).map Row.av))) (show EV _ _ _ _ _ _ _ _ from ?_) ?_
  · refine EV_IfExp ?_
    refine TJ_value ?_
    ks_step "r"
    cases sm with
    | true =>
      have := us rfl
      subst this
      ks_step "r"
      refine CodeOk.at (draw_ok G T₆ (by decide) (by decide) (by decide) fun r' st₇ c0 c1 T₇ ch₇ => ?_)
      exact ⟨r', rfl, ⟨.inl rfl, c0, by omega, fun h => (h rfl).elim⟩, c0, T₇.le (by decide), ch₇ _ _ tP eP₆, ch₇ _ _ nAt eA⟩
    | false =>
      ks_step "r"
      refine CodeOk.at (draw_ok G T₆ (by decide) (by decide) (by decide) fun r' st₇ c0 c1 T₇ ch₇ => ?_)
      ks_step "r"
      refine BIN_mul (mulOk u01.1 u01.2) ?_
      obtain ⟨m1, m2⟩ := mul_in u01.1 u01.2 c0 c1
      exact ⟨_, rfl, ⟨.inr (ub rfl), Int.le_trans u01.1 m1, m2, fun _ => by omega⟩, m1, T₇.le (by decide), ch₇ _ _ tP eP₆, ch₇ _ _ nAt eA⟩
  rintro v st₇ ⟨fl, rfl, U, hufl, T₇, eP₇, eA₇⟩
  clear T₆ eP₆ eA
  ks_step "r"
  refine CodeOk.at (draw_ok G T₇ (by decide) (by decide) (by decide) fun r₁ st₈ c0 c1 T₈ ch₈ => ?_)
  have eP₈ := ch₈ _ _ tP eP₇
  have eA₈ := ch₈ _ _ nAt eA₇
  clear T₇ ch₈ eP₇ eA₇
  ks_step "r"
  refine BIN_fdiv (by omega) (by omega) ?_
  obtain ⟨n1, n2, n3⟩ := fdiv_in U.f0 c0 c1 hufl
  generalize fl.fdiv (1 + r₁) = fn at *
  have Un : Unit_ u fn := ⟨U.uu, n1, Int.le_trans n2 U.f1, fun _ => n3⟩
  ks_step "r"
  refine CodeOk.at (draw_ok G T₈ (by decide) (by decide) (by decide) fun r₂ st₉ d0 d1 T₉ ch₉ => ?_)
  have eP₉ := ch₉ _ _ tP eP₈
  have eA₉ := ch₉ _ _ nAt eA₈
  clear T₈ ch₉ eP₈ eA₈
  ks_step "r"
  refine CodeOk.at (draw_ok G T₉ (by decide) (by decide) (by decide) fun r₃ st₁₀ g0 g1 T₁₀ ch₁₀ => ?_)
  have eP₁₀ := ch₁₀ _ _ tP eP₉
  have eA₁₀ := ch₁₀ _ _ nAt eA₉
  clear T₉ ch₁₀ eP₉ eA₉
  iterate 5 ks_step "s"
  show EX _ _ _ _ _ _ _ _
  refine' LawOk.use (law_tail G LB D U Un n2 (show (r₂ - 1000001).natAbs ≤ 1000001 by omega) (show (r₃ - 1000001).natAbs ≤ 1000001 by omega) rfl rfl rfl rfl rfl r6 eA₁₀ eP₁₀) ?ho ?hbs
  case ho => k_is
  case hbs => rfl
end

/-! C22 -/
section


theorem law_end {w : World} {b : Heap} {L fa S : Addr} {m mg mb : Str → Option Value} {p : Program} {loose : List Str} {mean : ExcName → Option Value} {vs : List Value} {ws : List Int} {o1 o0 : Obj} {v1 v0 : Option Value}
    {name qual nm : Str} {params : Arguments} {body : List Stmt} {scope : Scope} {dV kV doc pm cdv ct oc : Value} {an od : Option Addr} {osl : Array (Option Value)} {s : Shared} {Q : Flow → Shared → Prop} {E : Value → Shared → Prop}
    (F : Fr b L s.heap m) (X : (hd.heap_1 w.params).In b) (T : Top p loose mean mg mb b) (N : News b L s.heap [(L + 1 + 1, o1), (L + 1, o0), (314, tabObj #[])]) (d1 : o1.data = .cell v1) (d0 : o0.data = .cell v0)
    (C : CodeHd b 316 314) (l0 : 314 < L) (hS : b.IsList S vs.toArray) (hI : IntsAre vs ws) (hl : ws.length ≤ 63)
    (ho : (hd.heap_1 w.params).lookup 317 = some ⟨oc, od, .func (fnOf nm qual params body scope dV kV doc pm an cdv ct), osl⟩)
    (hm : m "script" = some (.ref S)) (hc : cellsFrom (L + 1) scope.names [] = [(("up" : Str), L + 1 + 1), (("across" : Str), L + 1)])
    (hk : scope.kind = .function) (hn : scope.names.lookup ("<cl>" : Str) = none) (hs : scope.names.lookup ("script" : Str) = some .local)
    (hQ : ∀ h' tk', (∀ a o, b.get? a = some o → h'.get? a = some o) → (∃ ps, h'.get? 314 = some (tabObj ps)) → Q (.ret (.bool true)) { s with heap := h', toks := tk' }) :
    wpAny (model PySem.Challenge.rw_rh0179_01.row.prog w) (callerA.deeper (envOfC name scope L fa (.ref 316))) (execs body (envOfC name scope L fa (.ref 316))) Q E s := by
  have n1 := N (L + 1 + 1, o1) (.head _)
  have n0 := N (L + 1, o0) (.tail _ (.head _))
  have nP := N (314, tabObj #[]) (.tail _ (.tail _ (.head _)))
  have G : Gd w b := ⟨X, ⟨mg, T.g⟩, ⟨mb, T.b, T.builtins⟩, T.nolimit⟩
  have LB : LamBase b 316 314 := by
    obtain ⟨bm, ob, b1, b2, b3, b4, b5, b6⟩ := T.bmain
    have hbP : bm ≠ 314 := fun q => by rw [q, nP.2.2] at b3; cases b3
    have hbG : bm ≠ mainGlobals := fun q => by
      obtain ⟨o, es, ep, e, hd, _⟩ := T.g
      rw [q, e] at b3; cases b3; rw [hd] at b6; cases b6
    refine ⟨⟨mg, T.g, bm, ob, b1, b2, hbG, hbP, b3, b4, b5, b6⟩, C, fun q => ?_⟩
    obtain ⟨o, es, ep, e, hd, _⟩ := T.g
    rw [q, nP.2.2] at e; cases e
  let st₀ : St := upd (fun _ => none) 314 (.raw (tabObj #[]))
  let ρ₀ : Ren := (Ren.nil.set "script" (.obj S)).set "<cl>" (.cells (cellsFrom (L + 1) scope.names []) (.ref 316))
  have eP : st₀ 314 = some (.raw (tabObj #[])) := upd_self
  have oP : ∀ a, a ≠ 314 → st₀ a = none := fun a n => by show upd _ _ _ _ = _; rw [upd_ne n]
  have I : Inv b st₀ s.heap := by
    refine ⟨fun a x e => ?_, F.keep, fun a o e => oP a fun q => by rw [q, nP.2.2] at e; cases e⟩
    by_cases q : a = 314
    · subst q; rw [eP] at e; cases e; exact ⟨nP.1, not_imm_tab⟩
    · rw [oP a q] at e; cases e
  let f : FId := ⟨L, cellsFrom (L + 1) scope.names [], name ++ ".<locals>.", some fa, .ref 316, some L⟩
  have look : ∀ x c, (cellsFrom (L + 1) scope.names []).lookup x = some c → (x = "up" ∧ c = L + 1 + 1) ∨ (x = "across" ∧ c = L + 1) := fun x c e => by
    rw [hc] at e
    have hmem := PySem.mem_of_lookup e
    rcases List.mem_cons.mp hmem with q | q
    · cases q; exact .inl ⟨rfl, rfl⟩
    · rw [List.mem_singleton] at q; cases q; exact .inr ⟨rfl, rfl⟩
  have O : Off b f st₀ := by
    refine ⟨oP _ (Nat.ne_of_gt l0), fun x c e => ?_, Heap.get?_none_of_le F.above, fun x c e => ?_⟩
    · rcases look x c e with ⟨-, rfl⟩ | ⟨-, rfl⟩
      · exact oP _ (Nat.ne_of_gt (Nat.lt_succ_of_lt (Nat.lt_succ_of_lt l0)))
      · exact oP _ (Nat.ne_of_gt (Nat.lt_succ_of_lt l0))
    · rcases look x c e with ⟨-, rfl⟩ | ⟨-, rfl⟩
      · exact n1.2.2
      · exact n0.2.2
  have two : ∀ x av, ρ₀ x = some av → (x = "<cl>" ∧ av = .cells (cellsFrom (L + 1) scope.names []) (.ref 316)) ∨ (x = "script" ∧ av = .obj S) := fun x av e => by
    have e : (if x = "<cl>" then some (AV.cells (cellsFrom (L + 1) scope.names []) (.ref 316)) else if x = "script" then some (AV.obj S) else none) = some av := e
    by_cases q1 : x = "<cl>"
    · rw [if_pos q1] at e; cases e; exact .inl ⟨q1, rfl⟩
    · rw [if_neg q1] at e
      by_cases q2 : x = "script"
      · rw [if_pos q2] at e; cases e; exact .inr ⟨q2, rfl⟩
      · rw [if_neg q2] at e; cases e
  have FO : FrOK f scope s.heap ρ₀ := by
    refine ⟨hk, ⟨m, F.ns, fun x av e l => ?_⟩, fun x av e l => ?_, fun x e => ?_, fun x c e => ?_, fun x y c e1 e2 => ?_, fun cl cd e => ?_⟩
    · rcases two x av e with ⟨rfl, rfl⟩ | ⟨rfl, rfl⟩
      · rw [hn] at l; cases l
      · exact ⟨_, hm, .obj S⟩
    · rcases two x av e with ⟨rfl, rfl⟩ | ⟨rfl, rfl⟩
      · rw [hn] at l; rcases l with l | l <;> cases l
      · rw [hs] at l; rcases l with l | l <;> cases l
    · exact Option.isSome_iff_exists.mp (cellsFrom_some scope.names (L + 1) [] (.inl e))
    · rcases look x c e with ⟨-, rfl⟩ | ⟨-, rfl⟩
      · exact ⟨_, o1, n1.1, d1⟩
      · exact ⟨_, o0, n0.1, d0⟩
    · rcases look x c e1 with ⟨rfl, h1⟩ | ⟨rfl, h1⟩ <;> rcases look y c e2 with ⟨rfl, h2⟩ | ⟨rfl, h2⟩ <;> first | rfl | exact absurd (h1.symm.trans h2) (Nat.succ_ne_self _) | exact absurd (h2.symm.trans h1) (Nat.succ_ne_self _)
    · rcases two _ _ e with ⟨-, q⟩ | ⟨q, -⟩
      · cases q; exact ⟨rfl, rfl⟩
      · exact absurd q (by decide)
  have H : EX w b 12 scope ρ₀ body st₀ LawQ := law_head G LB hS hI hl (by rfl) (by rfl) eP ho
  have R : RoomA 12 (callerA.deeper (f.env scope)) := ⟨rfl, (show 1 + claimMargin + 1 + 12 ≤ 900 by decide +kernel), (show 4 + 3 + 10 * 12 ≤ 9000 by decide +kernel)⟩
  refine wpAny_mono (H f (callerA.deeper (f.env scope)) s R FO I O Q fun fl afl ρ' st' h' tk' S' F' I' O' r' q => ?_) (fun _ _ x => x) fun _ _ x => x.elim
  obtain ⟨rfl, ps, e⟩ := q
  cases r' with
  | ret rv =>
    cases rv
    exact hQ h' tk' I'.base ⟨ps, (I'.rep _ _ e).1⟩
end

end Mine

set_option maxHeartbeats 8000000 in
theorem PySem.Challenge.cw_rh0179_01_holds : PySem.Challenge.rw_rh0179_01.Holds := by
  exact Mine.hd (by
    w_strict k_go0
    refine' Mine.law_end (by assumption) ?X ?T ?N ?d1 ?d0 ?C ?l0 ?hS ?hI ?hl ?ho ?hm ?hc ?hk ?hn ?hs ?hQ
    case X => assumption
    case T => assumption
    case N => assumption
    case d1 => assumption
    case d0 => assumption
    case C => assumption
    case l0 => assumption
    case hS => assumption
    case hI => assumption
    case hl => omega
    case ho => k_is
    case hm => rfl
    case hc => rfl
    case hk => rfl
    case hn => rfl
    case hs => rfl
    case hQ =>
      intro h' tk' hk ⟨ps, hp⟩
      refine ⟨⟨.inl ⟨.bool true, .bool true, [], rfl, fun _ => rfl, .bool true, by first | rfl | wrow_post, fun _ => ⟨.nil, fun _ h => nomatch h⟩⟩, hk, rfl, by assumption⟩, ⟨⟨ps, hp⟩, trivial⟩⟩)
