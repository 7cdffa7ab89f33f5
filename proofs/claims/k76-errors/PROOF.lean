import PyProof.Rows.All
import Wide.All
import OpenK.AllK
import Wide.FinOn
import KE.KStateDown
import Lean
import HandS.ForMost
import HandS.Exc
import HandS.Flow
import HandS.IsInst
import HandS.Zip
import HandS.TupAny
import HandS.TupLe
import HandS.Deep
import HandS.Conv
import HandS.Style
import HandS.Wide
import HandS.HeadHook1
import PyProof.StrBlock2
import HandS.Defaults
import HandS.Rev
import HandS.RevRange
import HandS.Strs
import KE.GoesMore
import HandS.Text
import HandS.StrMore
import HandS.More
import PyProof.StrLawsIn
import HandS.TryOnly
import HandS.ExcInit
import HandS.ExcOwn
import HandS.ExcField
import HandS.ExcIs
import HandS.ExcValue
import KE.KExcIs
import HandS.HotCalls
import HandS.SetFor
import HandS.HeadHook2
import HandS.Words
import HandS.WordsExc
import HandS.Head0
import HandS.Head1
import HandS.Head2
import HandS.HeadEnd
import HandS.HeadHook3
import HandS.HeadHook4
import PySem.Challenge.RW_shortglue_k76_errors
set_option Elab.async false
set_option linter.all false
set_option maxRecDepth 100000
set_option maxHeartbeats 0
namespace Qq
open PySem PySem.Spec PyProof.Rows L2

/-- plain data -/
inductive D where
  | non | bl (b : Bool) | int (i : Int) | str (x : List Nat) | tup (ds : List D) | lst (ds : List D) | lsr (ds : List D)
  | obj (i : Option Addr) (C : Str) (ks : List Str) (ds : List D) | dic (ks : List Key) (ds : List D) | ty (n : String) | cls (a : Addr) | exn (C : Str) (ks : List Str) (ds : List D)

/-- a caught exception: its class, its dict -/
def ExX (cls : Value) (d : Option Addr) (a : Addr) : HO := .ext fun h => ∃ (oe : Obj) (vs : Array Value), h.get? a = some oe ∧ Zc cls d oe ∧ oe.data = .fields vs

mutual
/-- v stands for d at H; the changeable objects met are ns -/
inductive Rep (K : PySem.W.Frag) (H : Hp) : V → D → List Addr → Prop
  | non : Rep K H .non .non []
  | bl (b : Bool) : Rep K H (.bl b) (.bl b) []
  | int (i : Int) : Rep K H (.int i) (.int i) []
  | ty (n : String) : Rep K H (.ty n) (.ty n) []
  | cls (a : Addr) : Rep K H (.ref a) (.cls a) []
  | str {z : Str} {x : List Nat} : z.cps.toList = x → Rep K H (.str z) (.str x) []
  | tup {a : Addr} {vs : List V} {ds : List D} {ns : List Addr} : SqT K H a vs → RepL K H vs ds ns → Rep K H (.ref a) (.tup ds) ns
  | lst {a : Addr} {vs : List V} {ds : List D} {ns : List Addr} : H a = some (.lst vs) → RepL K H vs ds ns → Rep K H (.ref a) (.lst ds) (a :: ns)
  | lstR {a : Addr} {vs : List V} {ds : List D} {ns : List Addr} : (∀ H' : Hp, (∀ o u, H a = some (.frz o u) → H' a = some (.frz o u)) → SqL K H' a vs) → RepL K H vs ds ns → Rep K H (.ref a) (.lsr ds) ns
  | obj {a dx : Addr} {i : Option Addr} {C : Str} {ks : List Str} {vs : List V} {ds : List D} {ns : List Addr} : H a = some (.ins (He.ga K C) dx (ks.zip vs)) → ks.length = vs.length → (∀ x, i = some x → x = a) → RepL K H vs ds ns → Rep K H (.ref a) (.obj i C ks ds) (a :: ns)
  | dic {a : Addr} {ks : List Key} {vs : List V} {ds : List D} {ns : List Addr} : H a = some (.dK (ks.zip vs)) → ks.length = vs.length → RepL K H vs ds ns → Rep K H (.ref a) (.dic ks ds) (a :: ns)
  | exn0 {a : Addr} {C : Str} : H a = some (ExX (.ref (He.ga K C)) none a) → Rep K H (.ref a) (.exn C [] []) [a]
  | exn1 {a dd : Addr} {C : Str} {ks : List Str} {vs : List V} {ds : List D} {ns : List Addr} : H a = some (ExX (.ref (He.ga K C)) (some dd) a) → H dd = some (.xd (ks.zip vs)) → ks.length = vs.length → RepL K H vs ds ns → Rep K H (.ref a) (.exn C ks ds) (a :: dd :: ns)
inductive RepL (K : PySem.W.Frag) (H : Hp) : List V → List D → List Addr → Prop
  | nil : RepL K H [] [] []
  | cons {v : V} {vs : List V} {d : D} {ds : List D} {ns ms ks : List Addr} : Rep K H v d ns → RepL K H vs ds ms → ks = ns ++ ms → RepL K H (v :: vs) (d :: ds) ks
end

/-- what is kept: all that F names, the tuples, what is locked; nothing is forgotten -/
structure Ext (F : Addr → Prop) (H H' : Hp) : Prop where
  keep : ∀ b o, F b → H b = some o → H' b = some o
  tups : ∀ b xs, H b = some (.tup xs) → H' b = some (.tup xs)
  frzs : ∀ b o u, H b = some (.frz o u) → H' b = some (.frz o u)
  grow : ∀ b, H' b = none → H b = none
theorem Ext.refl {F : Addr → Prop} (H : Hp) : Ext F H H := ⟨fun _ _ _ h => h, fun _ _ h => h, fun _ _ _ h => h, fun _ h => h⟩
theorem Ext.trans {F : Addr → Prop} {H H1 H2 : Hp} (a : Ext F H H1) (b : Ext F H1 H2) : Ext F H H2 :=
  ⟨fun c o f h => b.keep c o f (a.keep c o f h), fun c xs h => b.tups c xs (a.tups c xs h), fun c o u h => b.frzs c o u (a.frzs c o u h), fun c h => a.grow c (b.grow c h)⟩
theorem Ext.weak {F G : Addr → Prop} {H H' : Hp} (a : Ext G H H') (h : ∀ b, F b → G b) : Ext F H H' := ⟨fun b o f => a.keep b o (h b f), a.tups, a.frzs, a.grow⟩
theorem Ext.same {F : Addr → Prop} {H H' : Hp} (s : Same H H') : Ext F H H' := ⟨fun b o _ h => s b o h, fun b xs h => s b _ h, fun b o u h => s b _ h, fun _ h => s.free h⟩
theorem Ext.sqT {F : Addr → Prop} {K : PySem.W.Frag} {H H' : Hp} {a : Addr} {vs : List V} (e : Ext F H H') (h : SqT K H a vs) : SqT K H' a vs := by
  rcases h with (h | ⟨o, h⟩) | h
  · exact .inl (.inl (e.tups _ _ h))
  · exact .inl (.inr ⟨o, e.frzs _ _ _ h⟩)
  · exact .inr h

mutual
theorem Rep.frame {F : Addr → Prop} {K : PySem.W.Frag} {H H' : Hp} (e : Ext F H H') : ∀ {v : V} {d : D} {ns : List Addr}, Rep K H v d ns → (∀ b ∈ ns, F b) → Rep K H' v d ns
  | _, _, _, .non, _ => .non
  | _, _, _, .bl b, _ => .bl b
  | _, _, _, .int i, _ => .int i
  | _, _, _, .ty n, _ => .ty n
  | _, _, _, .cls a, _ => .cls a
  | _, _, _, .str h, _ => .str h
  | _, _, _, .tup h r, f => .tup (e.sqT h) (RepL.frame e r f)
  | _, _, _, .lst h r, f => .lst (e.keep _ _ (f _ List.mem_cons_self) h) (RepL.frame e r fun b hb => f b (List.mem_cons_of_mem _ hb))
  | _, _, _, .lstR h r, f => .lstR (fun H2 k => h H2 fun o u q => k o u (e.frzs _ _ _ q)) (RepL.frame e r f)
  | _, _, _, .obj h l q r, f => .obj (e.keep _ _ (f _ List.mem_cons_self) h) l q (RepL.frame e r fun b hb => f b (List.mem_cons_of_mem _ hb))
  | _, _, _, .dic h l r, f => .dic (e.keep _ _ (f _ List.mem_cons_self) h) l (RepL.frame e r fun b hb => f b (List.mem_cons_of_mem _ hb))
  | _, _, _, .exn0 h, f => .exn0 (e.keep _ _ (f _ List.mem_cons_self) h)
  | _, _, _, .exn1 h h2 l r, f => .exn1 (e.keep _ _ (f _ List.mem_cons_self) h) (e.keep _ _ (f _ (List.mem_cons_of_mem _ List.mem_cons_self)) h2) l (RepL.frame e r fun b hb => f b (List.mem_cons_of_mem _ (List.mem_cons_of_mem _ hb)))
theorem RepL.frame {F : Addr → Prop} {K : PySem.W.Frag} {H H' : Hp} (e : Ext F H H') : ∀ {vs : List V} {ds : List D} {ns : List Addr}, RepL K H vs ds ns → (∀ b ∈ ns, F b) → RepL K H' vs ds ns
  | _, _, _, .nil, _ => .nil
  | _, _, _, .cons r t q, f => .cons (Rep.frame e r fun b hb => f b (by rw [q]; exact List.mem_append_left _ hb)) (RepL.frame e t fun b hb => f b (by rw [q]; exact List.mem_append_right _ hb)) q
end
/-- a changeable object -/
def Chg (o : HO) : Prop := (∃ xs, o = .lst xs) ∨ (∃ C dx fs, o = .ins C dx fs) ∨ (∃ kvs, o = .dK kvs) ∨ (∃ φ, o = .ext φ) ∨ (∃ fs, o = .xd fs)
mutual
theorem Rep.dom {K : PySem.W.Frag} {H : Hp} : ∀ {v : V} {d : D} {ns : List Addr}, Rep K H v d ns → ∀ b ∈ ns, ∃ o, H b = some o ∧ Chg o
  | _, _, _, .non, _, h => nomatch h
  | _, _, _, .bl b, _, h => nomatch h
  | _, _, _, .int i, _, h => nomatch h
  | _, _, _, .ty i, _, h => nomatch h
  | _, _, _, .cls i, _, h => nomatch h
  | _, _, _, .str _, _, h => nomatch h
  | _, _, _, .tup _ r, b, hb => RepL.dom r b hb
  | _, _, _, .lst h r, b, hb => (List.mem_cons.mp hb).elim (fun e => ⟨_, e ▸ h, .inl ⟨_, rfl⟩⟩) (RepL.dom r b)
  | _, _, _, .lstR _ r, b, hb => RepL.dom r b hb
  | _, _, _, .obj h _ _ r, b, hb => (List.mem_cons.mp hb).elim (fun e => ⟨_, e ▸ h, .inr (.inl ⟨_, _, _, rfl⟩)⟩) (RepL.dom r b)
  | _, _, _, .dic h _ r, b, hb => (List.mem_cons.mp hb).elim (fun e => ⟨_, e ▸ h, .inr (.inr (.inl ⟨_, rfl⟩))⟩) (RepL.dom r b)
  | _, _, _, .exn0 h, b, hb => ⟨_, (List.mem_singleton.mp hb) ▸ h, .inr (.inr (.inr (.inl ⟨_, rfl⟩)))⟩
  | _, _, _, .exn1 h h2 _ r, b, hb => (List.mem_cons.mp hb).elim (fun e => ⟨_, e ▸ h, .inr (.inr (.inr (.inl ⟨_, rfl⟩)))⟩) fun hb => (List.mem_cons.mp hb).elim (fun e => ⟨_, e ▸ h2, .inr (.inr (.inr (.inr ⟨_, rfl⟩)))⟩) (RepL.dom r b)
theorem RepL.dom {K : PySem.W.Frag} {H : Hp} : ∀ {vs : List V} {ds : List D} {ns : List Addr}, RepL K H vs ds ns → ∀ b ∈ ns, ∃ o, H b = some o ∧ Chg o
  | _, _, _, .nil, _, h => nomatch h
  | _, _, _, .cons r t q, b, hb => (List.mem_append.mp (by rw [q] at hb; exact hb)).elim (Rep.dom r b) (RepL.dom t b)
end
theorem Rep.notNone {K : PySem.W.Frag} {H : Hp} {v : V} {d : D} {ns : List Addr} (r : Rep K H v d ns) {p : Addr} (hp : H p = none) : p ∉ ns := fun h => by
  obtain ⟨o, e, _⟩ := r.dom p h
  rw [hp] at e; cases e
theorem RepL.notNone {K : PySem.W.Frag} {H : Hp} {v : List V} {d : List D} {ns : List Addr} (r : RepL K H v d ns) {p : Addr} (hp : H p = none) : p ∉ ns := fun h => by
  obtain ⟨o, e, _⟩ := r.dom p h
  rw [hp] at e; cases e
theorem RepL.length {K : PySem.W.Frag} {H : Hp} : ∀ {vs : List V} {ds : List D} {ns : List Addr}, RepL K H vs ds ns → vs.length = ds.length
  | _, _, _, .nil => rfl
  | _, _, _, .cons _ t _ => by simp [RepL.length t]
theorem RepL.get {K : PySem.W.Frag} {H : Hp} : ∀ {vs : List V} {ds : List D} {ns : List Addr}, RepL K H vs ds ns → ∀ {i : Nat} {d : D}, ds[i]? = some d → ∃ v ms, vs[i]? = some v ∧ Rep K H v d ms ∧ ∀ b ∈ ms, b ∈ ns
  | _, _, _, .nil, i, d, h => by simp at h
  | _, _, _, .cons r t q, 0, d, h => by
    simp at h; subst h; subst q
    exact ⟨_, _, rfl, r, fun b hb => List.mem_append_left _ hb⟩
  | _, _, _, .cons r t q, i + 1, d, h => by
    obtain ⟨v, ms, e, r', k⟩ := RepL.get t (i := i) (d := d) (by simpa using h)
    subst q
    exact ⟨v, ms, by simpa using e, r', fun b hb => List.mem_append_right _ (k b hb)⟩
theorem RepL.getV {K : PySem.W.Frag} {H : Hp} : ∀ {vs : List V} {ds : List D} {ns : List Addr}, RepL K H vs ds ns → ∀ {i : Nat} {v : V}, vs[i]? = some v → ∃ d ms, ds[i]? = some d ∧ Rep K H v d ms ∧ ∀ b ∈ ms, b ∈ ns
  | _, _, _, .nil, i, d, h => by simp at h
  | _, _, _, .cons r t q, 0, d, h => by
    simp at h; subst h; subst q
    exact ⟨_, _, rfl, r, fun b hb => List.mem_append_left _ hb⟩
  | _, _, _, .cons r t q, i + 1, d, h => by
    obtain ⟨v, ms, e, r', k⟩ := RepL.getV t (i := i) (v := d) (by simpa using h)
    subst q
    exact ⟨v, ms, by simpa using e, r', fun b hb => List.mem_append_right _ (k b hb)⟩
theorem RepL.append {K : PySem.W.Frag} {H : Hp} : ∀ {vs : List V} {ds : List D} {ns : List Addr}, RepL K H vs ds ns → ∀ {ws : List V} {es : List D} {ms : List Addr}, RepL K H ws es ms → RepL K H (vs ++ ws) (ds ++ es) (ns ++ ms)
  | _, _, _, .nil, _, _, _, r => r
  | _, _, _, .cons r t q, _, _, _, r' => .cons r (RepL.append t r') (by rw [q, List.append_assoc])
theorem RepL.one {K : PySem.W.Frag} {H : Hp} {v : V} {d : D} {ns : List Addr} (r : Rep K H v d ns) : RepL K H [v] [d] ns := .cons r .nil (by simp)
/-- some part of it: its own nodes are among the nodes -/
theorem RepL.take {K : PySem.W.Frag} {H : Hp} : ∀ {vs : List V} {ds : List D} {ns : List Addr}, RepL K H vs ds ns → ∀ n : Nat, ∃ ms, RepL K H (vs.take n) (ds.take n) ms ∧ ∀ b ∈ ms, b ∈ ns
  | _, _, _, _, 0 => ⟨[], by simpa using RepL.nil, fun _ h => nomatch h⟩
  | _, _, _, .nil, _ + 1 => ⟨[], .nil, fun _ h => nomatch h⟩
  | _, _, _, .cons r t q, n + 1 => by
    obtain ⟨ms, r', k⟩ := RepL.take t n
    subst q
    exact ⟨_, .cons r r' rfl, fun b hb => (List.mem_append.mp hb).elim (List.mem_append_left _) fun h => List.mem_append_right _ (k b h)⟩
theorem RepL.drop {K : PySem.W.Frag} {H : Hp} : ∀ {vs : List V} {ds : List D} {ns : List Addr}, RepL K H vs ds ns → ∀ n : Nat, ∃ ms, RepL K H (vs.drop n) (ds.drop n) ms ∧ ∀ b ∈ ms, b ∈ ns
  | _, _, ns, r, 0 => ⟨ns, by simpa using r, fun _ h => h⟩
  | _, _, _, .nil, _ + 1 => ⟨[], .nil, fun _ h => nomatch h⟩
  | _, _, _, .cons r t q, n + 1 => by
    obtain ⟨ms, r', k⟩ := RepL.drop t n
    subst q
    exact ⟨ms, by simpa using r', fun b hb => List.mem_append_right _ (k b hb)⟩
theorem RepL.set {K : PySem.W.Frag} {H : Hp} {v : V} {d : D} {ks : List Addr} (r : Rep K H v d ks) : ∀ {vs : List V} {ds : List D} {ns : List Addr}, RepL K H vs ds ns → ∀ n : Nat, ∃ ms, RepL K H (vs.set n v) (ds.set n d) ms ∧ ∀ b ∈ ms, b ∈ ns ∨ b ∈ ks
  | _, _, _, .nil, _ => ⟨[], by simpa using RepL.nil, fun _ h => nomatch h⟩
  | _, _, _, .cons _ t q, 0 => ⟨_, by simpa using RepL.cons r t rfl, fun b hb => (List.mem_append.mp hb).elim .inr fun h => .inl (by rw [q]; exact List.mem_append_right _ h)⟩
  | _, _, _, .cons r0 t q, n + 1 => by
    obtain ⟨ms, r', k⟩ := RepL.set r t n
    subst q
    exact ⟨_, by simpa using RepL.cons r0 r' rfl, fun b hb => (List.mem_append.mp hb).elim (fun h => .inl (List.mem_append_left _ h)) fun h => (k b h).elim (fun h => .inl (List.mem_append_right _ h)) .inr⟩
theorem RepL.erase {K : PySem.W.Frag} {H : Hp} : ∀ {vs : List V} {ds : List D} {ns : List Addr}, RepL K H vs ds ns → ∀ n : Nat, ∃ ms, RepL K H (vs.eraseIdx n) (ds.eraseIdx n) ms ∧ ∀ b ∈ ms, b ∈ ns
  | _, _, _, .nil, _ => ⟨[], by simpa using RepL.nil, fun _ h => nomatch h⟩
  | _, _, _, .cons r t q, 0 => ⟨_, by simpa using t, fun b hb => by rw [q]; exact List.mem_append_right _ hb⟩
  | _, _, _, .cons r t q, n + 1 => by
    obtain ⟨ms, r', k⟩ := RepL.erase t n
    subst q
    exact ⟨_, by simpa using RepL.cons r r' rfl, fun b hb => (List.mem_append.mp hb).elim (List.mem_append_left _) fun h => List.mem_append_right _ (k b h)⟩
theorem RepL.dropLast {K : PySem.W.Frag} {H : Hp} {vs : List V} {ds : List D} {ns : List Addr} (r : RepL K H vs ds ns) : ∃ ms, RepL K H vs.dropLast ds.dropLast ms ∧ ∀ b ∈ ms, b ∈ ns := by
  rw [List.dropLast_eq_take, List.dropLast_eq_take, r.length]
  exact r.take _
theorem RepL.reverse {K : PySem.W.Frag} {H : Hp} : ∀ {vs : List V} {ds : List D} {ns : List Addr}, RepL K H vs ds ns → ∃ ms, RepL K H vs.reverse ds.reverse ms ∧ ∀ b ∈ ms, b ∈ ns
  | _, _, _, .nil => ⟨[], .nil, fun _ h => h⟩
  | _, _, _, .cons r t q => by
    obtain ⟨ms, r', k⟩ := RepL.reverse t
    subst q
    refine ⟨_, by simpa using r'.append (RepL.one r), fun b hb => (List.mem_append.mp hb).elim (fun h => List.mem_append_right _ (k b h)) (List.mem_append_left _)⟩
theorem RepL.rep {K : PySem.W.Frag} {H : Hp} {vs : List V} {ds : List D} {ns : List Addr} (r : RepL K H vs ds ns) : ∀ n : Nat, ∃ ms, RepL K H (List.replicate n vs).flatten (List.replicate n ds).flatten ms ∧ ∀ b ∈ ms, b ∈ ns
  | 0 => ⟨[], by simpa using RepL.nil, fun _ h => nomatch h⟩
  | n + 1 => by
    obtain ⟨ms, r', k⟩ := RepL.rep r n
    refine ⟨_, by simpa [List.replicate_succ] using r.append r', fun b hb => (List.mem_append.mp hb).elim id (k b)⟩

/-! ### stores -/
/-- a slot: shared data (fr: all its changeable objects are new since the entry), or a list that nobody else holds (k: which changed parameter it is) -/
inductive Cel where
  | sh (fr : Bool) (d : D)
  | ow (k : Option Nat) (fr : Bool) (ds : List D)
  | tr (p : Bool) (d : D)
abbrev Sto := List (Option Cel)
/-- a value met on the way: shared data; the owned list in a slot; a new list that nobody else holds -/
inductive Val where
  | v (fr : Bool) (d : D)
  | s (i : Nat)
  | f (fr : Bool) (ds : List D)
def Cel.dat : Cel → D
  | .sh _ d => d
  | .ow _ _ ds => .lst ds
  | .tr _ d => d
def Cel.frs : Cel → Bool
  | .sh fr _ => fr
  | .ow _ fr _ => fr
  | .tr p _ => !p
/-- what may be read of a slot as a value: of a tree nothing -/
def Cel.rd : Cel → Option D
  | .sh _ d => some d
  | .ow _ _ ds => some (.lst ds)
  | .tr _ _ => none
theorem Cel.rd_dat {c : Cel} {d : D} (h : c.rd = some d) : c.dat = d := by
  cases c <;> simp [Cel.rd] at h <;> exact h
/-- what a value stands for -/
def res (ρ : Sto) : Val → Option D
  | .v _ d => some d
  | .s i => match ρ[i]? with
    | some (some c) => c.rd
    | _ => none
  | .f _ ds => some (.lst ds)
/-- .. as an argument -/
def resT (ρ : Sto) : Val → Option D
  | .v _ d => some d
  | .s i => match ρ[i]? with
    | some (some c) => some c.dat
    | _ => none
  | .f _ ds => some (.lst ds)
theorem resT_of {ρ : Sto} {x : Val} {d : D} (h : res ρ x = some d) : resT ρ x = some d := by
  cases x with
  | v _ _ => exact h
  | f _ _ => exact h
  | s i =>
    unfold res at h
    unfold resT
    simp only at h ⊢
    split at h
    · rw [Cel.rd_dat h]
    · cases h
def resF (ρ : Sto) : Val → Bool
  | .v fr _ => fr
  | .s i => match ρ[i]? with
    | some (some c) => c.frs
    | _ => false
  | .f fr _ => fr
/-- no longer alone -/
def Val.dn : Val → Val
  | .f fr ds => .v fr (.lst ds)
  | x => x

inductive CelOk (K : PySem.W.Frag) (M : List Addr) (H0 H : Hp) : V → Cel → List Addr → Prop
  | sh {v : V} {fr : Bool} {d : D} {ns : List Addr} : Rep K H v d ns → (fr = true → ∀ b ∈ ns, H0 b = none) → CelOk K M H0 H v (.sh fr d) ns
  | ow {a : Addr} {k : Option Nat} {fr : Bool} {vs : List V} {ds : List D} {tl : List Addr} : H a = some (.lst vs) → RepL K H vs ds tl → a ∉ tl → (fr = true → ∀ b ∈ a :: tl, H0 b = none) →
      (k = none → H0 a = none) → (∀ n, k = some n → M[n]? = some a) → CelOk K M H0 H (.ref a) (.ow k fr ds) (a :: tl)
  | tr {v : V} {p : Bool} {d : D} {ns : List Addr} : Rep K H v d ns → ns.Nodup → (p = false → ∀ b ∈ ns, H0 b = none) → (∀ b ∈ ns, H0 b = none ∨ b ∈ M) → CelOk K M H0 H v (.tr p d) ns

/-- a is the list that slot i owns -/
def Own (ρ : Sto) (ns : Nat → List Addr) (i : Nat) (a : Addr) : Prop := (∃ k fr ds, ρ[i]? = some (some (.ow k fr ds)) ∧ (ns i).head? = some a) ∨ ∃ p d, ρ[i]? = some (some (.tr p d)) ∧ a ∈ ns i
theorem Own.mem {ρ : Sto} {ns : Nat → List Addr} {i : Nat} {a : Addr} (h : Own ρ ns i a) : a ∈ ns i := by
  rcases h with ⟨_, _, _, _, h⟩ | ⟨_, _, _, h⟩
  · exact List.mem_of_head? h
  · exact h
theorem Own.noSh {ρ : Sto} {ns : Nat → List Addr} {i : Nat} {a : Addr} {fr : Bool} {d : D} (e : ρ[i]? = some (some (.sh fr d))) (h : Own ρ ns i a) : False := by
  rcases h with ⟨_, _, _, h, _⟩ | ⟨_, _, h, _⟩ <;> rw [e] at h <;> cases h
theorem Own.congr {ρ ρ' : Sto} {ns ns' : Nat → List Addr} {i : Nat} {a : Addr} (e : ρ[i]? = ρ'[i]?) (e' : ns i = ns' i) (h : Own ρ ns i a) : Own ρ' ns' i a := by
  rcases h with ⟨k, f, ds, h, q⟩ | ⟨p, d, h, q⟩
  · exact .inl ⟨k, f, ds, e ▸ h, e' ▸ q⟩
  · exact .inr ⟨p, d, e ▸ h, e' ▸ q⟩
theorem Own.cell {ρ : Sto} {ns : Nat → List Addr} {i : Nat} {a : Addr} (h : Own ρ ns i a) : ∃ c, ρ[i]? = some (some c) := by
  rcases h with ⟨k, f, ds, h, q⟩ | ⟨p, d, h, q⟩
  · exact ⟨_, h⟩
  · exact ⟨_, h⟩
theorem Own.ow_head {ρ : Sto} {ns : Nat → List Addr} {i : Nat} {a b : Addr} {k : Option Nat} {fr : Bool} {ds : List D} {tl : List Addr} (e : ρ[i]? = some (some (.ow k fr ds))) (hn : ns i = b :: tl) (h : Own ρ ns i a) : a = b := by
  rcases h with ⟨_, _, _, _, h⟩ | ⟨_, _, h, _⟩
  · rw [hn] at h; simpa using h.symm
  · rw [e] at h; cases h
structure SR (K : PySem.W.Frag) (M : List Addr) (Z : Addr → Prop) (H0 : Hp) (F : Addr → Prop) (ns : Nat → List Addr) (H : Hp) (σ : L2.St) (ρ : Sto) : Prop where
  len : σ.length = ρ.length
  cel : ∀ (i : Nat) (c : Cel), ρ[i]? = some (some c) → ∃ v, σ[i]? = some (some v) ∧ CelOk K M H0 H v c (ns i)
  emp : ∀ (i : Nat), (∀ c : Cel, ρ[i]? ≠ some (some c)) → ns i = []
  exc : ∀ i j a, Own ρ ns i a → j ≠ i → a ∉ ns j
  frz : ∀ i a, Own ρ ns i a → ¬ F a
  ent : ∀ b o, H0 b = some o → b ∉ M → H b = some o
  mls : ∀ b ∈ M, (∃ o, H0 b = some o) ∧ ∃ o, H b = some o
  fdm : ∀ b, F b → ∃ o, H b = some o
  hid : ∀ j, ∀ b ∈ ns j, ¬ Z b
  zdm : ∀ b, Z b → ∃ o, H b = some o

inductive VOk (K : PySem.W.Frag) (Z : Addr → Prop) (H0 : Hp) (F : Addr → Prop) (ns : Nat → List Addr) (H : Hp) (σ : L2.St) (ρ : Sto) : V → Val → Prop
  | v {v : V} {fr : Bool} {d : D} {ms : List Addr} : Rep K H v d ms → (fr = true → ∀ b ∈ ms, H0 b = none) → (∀ i a, Own ρ ns i a → a ∉ ms) → (∀ b ∈ ms, ¬ Z b) → VOk K Z H0 F ns H σ ρ v (.v fr d)
  | s {v : V} {i : Nat} {c : Cel} : ρ[i]? = some (some c) → σ[i]? = some (some v) → VOk K Z H0 F ns H σ ρ v (.s i)
  | f {a : Addr} {fr : Bool} {vs : List V} {ds : List D} {tl : List Addr} : H a = some (.lst vs) → RepL K H vs ds tl → a ∉ tl → (fr = true → ∀ b ∈ tl, H0 b = none) → H0 a = none → (∀ i, a ∉ ns i) → (∀ i b, Own ρ ns i b → b ∉ tl) → ¬ F a → (∀ b ∈ a :: tl, ¬ Z b) →
      VOk K Z H0 F ns H σ ρ (.ref a) (.f fr ds)

abbrev PX := Sto → (Val → Sto → Prop) → Prop
def Dom (ρ ρ' : Sto) : Prop := ∀ (i : Nat) (c : Cel), ρ[i]? = some (some c) → ∃ c', ρ'[i]? = some (some c')
theorem Dom.refl (ρ : Sto) : Dom ρ ρ := fun _ c h => ⟨c, h⟩
theorem Dom.trans {a b c : Sto} (x : Dom a b) (y : Dom b c) : Dom a c := fun i z h => let ⟨w, h'⟩ := x i z h; y i w h'

/-- the reading t does what p says of stores -/
def Sim (K : PySem.W.Frag) (t : TE) (p : PX) : Prop := ∀ (M : List Addr) (Z : Addr → Prop) (H0 : Hp) (F : Addr → Prop) (ns : Nat → List Addr) (H : Hp) (σ : L2.St) (ρ : Sto) (P : Val → Sto → Prop) (Q : VK),
  SR K M Z H0 F ns H σ ρ → p ρ P → (∀ x v H' ns' ρ', SR K M Z H0 F ns' H' σ ρ' → Ext F H H' → Dom ρ ρ' → VOk K Z H0 F ns' H' σ ρ' v x → P x ρ' → Q v H') → t σ H Q

section
variable {K : PySem.W.Frag} {M : List Addr} {Z : Addr → Prop} {H0 H H' : Hp} {F G : Addr → Prop} {ns : Nat → List Addr} {σ : L2.St} {ρ : Sto}
theorem SR.weak (S : SR K M Z H0 G ns H σ ρ) (h : ∀ b, F b → G b) : SR K M Z H0 F ns H σ ρ := ⟨S.len, S.cel, S.emp, S.exc, fun i a o f => S.frz i a o (h a f), S.ent, S.mls, fun b f => S.fdm b (h b f), S.hid, S.zdm⟩
theorem VOk.weak {v : V} {x : Val} (k : VOk K Z H0 G ns H σ ρ v x) (h : ∀ b, F b → G b) : VOk K Z H0 F ns H σ ρ v x := by
  cases k with
  | v r f o y => exact .v r f o y
  | s h1 h2 => exact .s h1 h2
  | f h1 r n f g i o z y => exact .f h1 r n f g i o (fun q => z (h _ q)) y
/-- more is locked -/
theorem SR.more (S : SR K M Z H0 F ns H σ ρ) (h : ∀ i a, Own ρ ns i a → ¬ G a) (hd : ∀ b, G b → ∃ o, H b = some o) : SR K M Z H0 (fun b => F b ∨ G b) ns H σ ρ :=
  ⟨S.len, S.cel, S.emp, S.exc, fun i a o f => f.elim (S.frz i a o) (h i a o), S.ent, S.mls, fun b f => f.elim (S.fdm b) (hd b), S.hid, S.zdm⟩
theorem SR.cell (S : SR K M Z H0 F ns H σ ρ) {i : Nat} {c : Cel} (h : ρ[i]? = some (some c)) : ∃ v, σ[i]? = some (some v) ∧ Rep K H v c.dat (ns i) ∧ (c.frs = true → ∀ b ∈ ns i, H0 b = none) := by
  obtain ⟨v, e, ok⟩ := S.cel i c h
  generalize hn : ns i = m at ok ⊢
  cases ok with
  | sh r f => exact ⟨v, e, r, f⟩
  | ow h1 r n f _ _ => exact ⟨_, e, .lst h1 r, f⟩
  | tr r n f _ => exact ⟨_, e, r, fun z => f (by simpa [Cel.frs] using z)⟩
theorem SR.sub (S : SR K M Z H0 F ns H σ ρ) (i : Nat) : ∀ b ∈ ns i, ∃ o, H b = some o ∧ Chg o := fun b hb => by
  by_cases h : ∃ c, ρ[i]? = some (some c)
  · obtain ⟨c, h⟩ := h
    obtain ⟨v, _, r, _⟩ := S.cell h
    exact r.dom b hb
  · rw [S.emp i fun c e => h ⟨c, e⟩] at hb
    cases hb
/-- the heap grows -/
theorem SR.grow (S : SR K M Z H0 F ns H σ ρ) (s : Same H H') : SR K M Z H0 F ns H' σ ρ := by
  have e : Ext (fun _ => True) H H' := .same s
  refine ⟨S.len, fun i c h => ?_, S.emp, S.exc, S.frz, fun b o h m => s b o (S.ent b o h m), fun b hb => ⟨(S.mls b hb).1, let ⟨xs, q⟩ := (S.mls b hb).2; ⟨xs, s b _ q⟩⟩, fun b f => let ⟨o, q⟩ := S.fdm b f; ⟨o, s b o q⟩, S.hid, fun b f => let ⟨o, q⟩ := S.zdm b f; ⟨o, s b o q⟩⟩
  obtain ⟨v, e1, ok⟩ := S.cel i c h
  refine ⟨v, e1, ?_⟩
  generalize ns i = m at ok ⊢
  cases ok with
  | sh r f => exact .sh (r.frame e fun _ _ => trivial) f
  | ow h1 r n f g k => exact .ow (s _ _ h1) (r.frame e fun _ _ => trivial) n f g k
  | tr r n f g => exact .tr (r.frame e fun _ _ => trivial) n f g
theorem VOk.grow {v : V} {x : Val} (k : VOk K Z H0 F ns H σ ρ v x) (s : Same H H') : VOk K Z H0 F ns H' σ ρ v x := by
  have e : Ext (fun _ => True) H H' := .same s
  cases k with
  | v r f o y => exact .v (r.frame e fun _ _ => trivial) f o y
  | s h1 h2 => exact .s h1 h2
  | f h r n f g i o z y => exact .f (s _ _ h) (r.frame e fun _ _ => trivial) n f g i o z y
/-- a value's data -/
theorem VOk.repT (S : SR K M Z H0 F ns H σ ρ) {v : V} {x : Val} {d : D} (k : VOk K Z H0 F ns H σ ρ v x) (h : resT ρ x = some d) : ∃ ms, Rep K H v d ms := by
  cases k with
  | v r f o y => cases h; exact ⟨_, r⟩
  | s h1 h2 =>
    rename_i i c
    obtain ⟨w, e, r, _⟩ := S.cell h1
    rw [h2] at e; cases e
    simp only [resT, h1] at h
    cases h
    exact ⟨_, r⟩
  | f h1 r n f g i o z y => cases h; exact ⟨_, .lst h1 r⟩
theorem VOk.rep (S : SR K M Z H0 F ns H σ ρ) {v : V} {x : Val} {d : D} (k : VOk K Z H0 F ns H σ ρ v x) (h : res ρ x = some d) : ∃ ms, Rep K H v d ms := k.repT S (resT_of h)
theorem VOk.int (b : Int) : VOk K Z H0 F ns H σ ρ (.int b) (.v true (.int b)) := .v (.int b) (fun _ _ h => nomatch h) (fun _ _ _ h => nomatch h) (fun _ h => nomatch h)
theorem VOk.bl (b : Bool) : VOk K Z H0 F ns H σ ρ (.bl b) (.v true (.bl b)) := .v (.bl b) (fun _ _ h => nomatch h) (fun _ _ _ h => nomatch h) (fun _ h => nomatch h)
theorem VOk.non : VOk K Z H0 F ns H σ ρ .non (.v true .non) := .v .non (fun _ _ h => nomatch h) (fun _ _ _ h => nomatch h) (fun _ h => nomatch h)
theorem VOk.str {z : Str} {x : List Nat} (h : z.cps.toList = x) : VOk K Z H0 F ns H σ ρ (.str z) (.v true (.str x)) := .v (.str h) (fun _ _ h => nomatch h) (fun _ _ _ h => nomatch h) (fun _ h => nomatch h)
theorem VOk.dn {v : V} {x : Val} (k : VOk K Z H0 F ns H σ ρ v x) : VOk K Z H0 F ns H σ ρ v x.dn := by
  cases k with
  | v r f o y => exact .v r f o y
  | s h1 h2 => exact .s h1 h2
  | f h r n f g i o z y =>
    refine .v (.lst h r) (fun e b hb => (List.mem_cons.mp hb).elim (fun q => by rw [q]; exact g) (f e b)) (fun j b ob hb => ?_) y
    rcases List.mem_cons.mp hb with q | q
    · exact i j (q ▸ ob.mem)
    · exact o j b ob q
/-- two in a row: the first one's objects are locked meanwhile -/
theorem sim_two {ta tb : TE} {pa pb : PX} (ha : Sim K ta pa) (hb : Sim K tb pb) {k : Val → Val → Sto → Prop} {R : V → V → Hp → Prop} (S : SR K M Z H0 F ns H σ ρ) (h : pa ρ fun x ρ1 => pb ρ1 fun y ρ2 => k x.dn y ρ2)
    (hk : ∀ x y v u H2 ns2 ρ2, SR K M Z H0 F ns2 H2 σ ρ2 → Ext F H H2 → Dom ρ ρ2 → VOk K Z H0 F ns2 H2 σ ρ2 v x → VOk K Z H0 F ns2 H2 σ ρ2 u y → k x y ρ2 → R v u H2) : ta σ H fun v H1 => tb σ H1 fun u H2 => R v u H2 := by
  refine ha M Z H0 F ns H σ ρ _ _ S h fun x v H1 ns1 ρ1 S1 e1 d1 vx q1 => ?_
  have vx' := vx.dn
  have go : ∀ {fr : Bool} {d : D}, VOk K Z H0 F ns1 H1 σ ρ1 v (.v fr d) → (pb ρ1 fun y ρ2 => k (.v fr d) y ρ2) → tb σ H1 fun u H2 => R v u H2 := fun {fr d} vx q1 => by
    cases vx with
    | @v _ _ _ ms r f o yz =>
    have S1' : SR K M Z H0 (fun b => F b ∨ b ∈ ms) ns1 H1 σ ρ1 := S1.more (fun i a ow hm => o i a ow hm) fun b hb => let ⟨o, e, _⟩ := r.dom b hb; ⟨o, e⟩
    refine hb M Z H0 _ ns1 H1 σ ρ1 _ _ S1' q1 fun y u H2 ns2 ρ2 S2 e2 d2 vy q2 => ?_
    exact hk _ _ _ _ _ ns2 ρ2 (S2.weak fun b h => .inl h) (e1.trans (e2.weak fun b h => .inl h)) (d1.trans d2) (.v (r.frame e2 fun b hb => .inr hb) f (fun i a ow hm => S2.frz i a ow (.inr hm)) yz) (vy.weak fun b h => .inl h) q2
  cases x with
  | v fr d => exact go vx' q1
  | f fr ds => exact go vx' q1
  | s i =>
    cases vx with
    | @s _ _ c h1 h2 =>
    refine hb M Z H0 F ns1 H1 σ ρ1 _ _ S1 q1 fun y u H2 ns2 ρ2 S2 e2 d2 vy q2 => ?_
    obtain ⟨c', e'⟩ := d2 i c h1
    exact hk _ _ _ _ _ ns2 ρ2 S2 (e1.trans e2) (d1.trans d2) (.s e' h2) vy q2
end
end Qq

namespace Qq
open PySem PySem.Spec PyProof.Rows L2

section
variable {K : PySem.W.Frag} {M : List Addr} {Z : Addr → Prop} {H0 H H' : Hp} {F G : Addr → Prop} {ns : Nat → List Addr} {σ : L2.St} {ρ : Sto}
theorem same_upd {H : Hp} {p : Addr} {o : HO} (hp : H p = none) : Same H (upd H p o) := fun b x e => by
  rw [upd_ne (ne_of_none e hp)]; exact e
theorem SR.fresh (S : SR K M Z H0 F ns H σ ρ) {p : Addr} (hp : H p = none) : H0 p = none := by
  cases e : H0 p with
  | none => rfl
  | some o =>
    by_cases hm : p ∈ M
    · obtain ⟨_, xs, q⟩ := S.mls p hm
      rw [hp] at q; cases q
    · rw [S.ent p o e hm] at hp; cases hp
theorem SR.notIn (S : SR K M Z H0 F ns H σ ρ) {p : Addr} (hp : H p = none) (i : Nat) : p ∉ ns i := fun h => by
  obtain ⟨o, e, _⟩ := S.sub i p h
  rw [hp] at e; cases e
/-- the items of a list met on the way -/
structure Items (K : PySem.W.Frag) (Z : Addr → Prop) (H0 H : Hp) (ns : Nat → List Addr) (ρ : Sto) (fr : Bool) (vs : List V) (ds : List D) (tl : List Addr) : Prop where
  rep : RepL K H vs ds tl
  fre : fr = true → ∀ b ∈ tl, H0 b = none
  own : ∀ i a, Own ρ ns i a → a ∉ tl
  hid : ∀ b ∈ tl, ¬ Z b
theorem VOk.lst (S : SR K M Z H0 F ns H σ ρ) {v : V} {x : Val} {ds : List D} (k : VOk K Z H0 F ns H σ ρ v x) (h : res ρ x = some (.lst ds)) :
    ∃ a vs tl, v = .ref a ∧ H a = some (.lst vs) ∧ Items K Z H0 H ns ρ (resF ρ x) vs ds tl := by
  cases k with
  | v r f o y =>
    cases h
    cases r with
    | lst h1 r => exact ⟨_, _, _, rfl, h1, r, fun e b hb => f e b (List.mem_cons_of_mem _ hb), fun i a ow hm => o i a ow (List.mem_cons_of_mem _ hm), fun b hb => y b (List.mem_cons_of_mem _ hb)⟩
  | @s _ i c h1 h2 =>
    obtain ⟨w, e, ok⟩ := S.cel i c h1
    rw [h2] at e; cases e
    simp only [res, h1] at h
    generalize hn : ns i = m at ok
    cases ok with
    | @sh _ fr d _ r f =>
      have h' : d = .lst ds := by simpa [Cel.rd] using h
      subst h'
      cases r with
      | @lst a vs _ tl h1' r =>
        refine ⟨_, _, _, rfl, h1', r, fun e b hb => f (by simpa [resF, h1, Cel.frs] using e) b (List.mem_cons_of_mem _ hb), fun j a ow hm => ?_, fun b hb => S.hid i b (by rw [hn]; exact List.mem_cons_of_mem _ hb)⟩
        by_cases hj : j = i
        · subst hj
          exact (ow.noSh h1).elim
        · exact S.exc j i a ow (Ne.symm hj) (by rw [hn]; exact List.mem_cons_of_mem _ hm)
    | @ow a k fr vs ds' tl g1 r n f _ _ =>
      have h' : ds' = ds := by simpa [Cel.rd] using h
      subst h'
      refine ⟨_, _, _, rfl, g1, r, fun e b hb => f (by simpa [resF, h1, Cel.frs] using e) b (List.mem_cons_of_mem _ hb), fun j b ow hm => ?_, fun b hb => S.hid i b (by rw [hn]; exact List.mem_cons_of_mem _ hb)⟩
      by_cases hj : j = i
      · subst hj
        have := ow.ow_head h1 hn
        subst this
        exact n hm
      · exact S.exc j i b ow (Ne.symm hj) (by rw [hn]; exact List.mem_cons_of_mem _ hm)
    | tr _ _ _ _ => cases h
  | f h1 r n f g i o z y => cases h; exact ⟨_, _, _, rfl, h1, r, f, o, fun b hb => y b (List.mem_cons_of_mem _ hb)⟩
theorem VOk.dat (S : SR K M Z H0 F ns H σ ρ) {v : V} {x : Val} {d : D} (k : VOk K Z H0 F ns H σ ρ v x) (h : res ρ x = some d) (hl : ∀ ds, d ≠ .lst ds) :
    ∃ ms, Rep K H v d ms ∧ (resF ρ x = true → ∀ b ∈ ms, H0 b = none) ∧ (∀ i a, Own ρ ns i a → a ∉ ms) ∧ ∀ b ∈ ms, ¬ Z b := by
  cases k with
  | v r f o y => cases h; exact ⟨_, r, f, o, y⟩
  | @s _ i c h1 h2 =>
    obtain ⟨w, e, ok⟩ := S.cel i c h1
    rw [h2] at e; cases e
    simp only [res, h1] at h
    generalize hn : ns i = m at ok
    cases ok with
    | @sh _ fr d' _ r f =>
      have h' : d' = d := by simpa [Cel.rd] using h
      subst h'
      refine ⟨_, r, fun e => f (by simpa [resF, h1, Cel.frs] using e), fun j a ow hm => ?_, fun b hb => S.hid i b (by rw [hn]; exact hb)⟩
      by_cases hj : j = i
      · subst hj
        exact (ow.noSh h1).elim
      · exact S.exc j i a ow (Ne.symm hj) (by rw [hn]; exact hm)
    | ow g1 r n f _ _ => exact absurd (by simpa [Cel.rd] using h.symm) (hl _)
    | tr _ _ _ _ => cases h
  | f h1 r n f g i o z y => exact absurd (Option.some.inj h.symm) (hl _)
theorem VOk.tup (S : SR K M Z H0 F ns H σ ρ) {v : V} {x : Val} {ds : List D} (k : VOk K Z H0 F ns H σ ρ v x) (h : res ρ x = some (.tup ds)) :
    ∃ a vs tl, v = .ref a ∧ SqT K H a vs ∧ Items K Z H0 H ns ρ (resF ρ x) vs ds tl := by
  obtain ⟨ms, r, f, o, y⟩ := k.dat S h fun ds e => nomatch e
  cases r with
  | tup h1 r => exact ⟨_, _, _, rfl, h1, r, f, o, y⟩
theorem VOk.lsr (S : SR K M Z H0 F ns H σ ρ) {v : V} {x : Val} {ds : List D} (k : VOk K Z H0 F ns H σ ρ v x) (h : res ρ x = some (.lsr ds)) :
    ∃ a vs tl, v = .ref a ∧ SqL K H a vs ∧ Items K Z H0 H ns ρ (resF ρ x) vs ds tl := by
  obtain ⟨ms, r, f, o, y⟩ := k.dat S h fun ds e => nomatch e
  cases r with
  | lstR h1 r => exact ⟨_, _, _, rfl, h1 H fun _ _ q => q, r, f, o, y⟩
/-- list (of either kind): to be read -/
theorem VOk.seqL (S : SR K M Z H0 F ns H σ ρ) {v : V} {x : Val} {ds : List D} (k : VOk K Z H0 F ns H σ ρ v x) (h : res ρ x = some (.lst ds) ∨ res ρ x = some (.lsr ds)) :
    ∃ a vs tl, v = .ref a ∧ SqL K H a vs ∧ Items K Z H0 H ns ρ (resF ρ x) vs ds tl := by
  rcases h with h | h
  · obtain ⟨a, vs, tl, e, q, i⟩ := k.lst S h
    exact ⟨a, vs, tl, e, .of q, i⟩
  · exact k.lsr S h
theorem VOk.intV (S : SR K M Z H0 F ns H σ ρ) {v : V} {x : Val} {i : Int} (k : VOk K Z H0 F ns H σ ρ v x) (h : res ρ x = some (.int i)) : v = .int i := by
  obtain ⟨ms, r⟩ := k.rep S h
  cases r; rfl
theorem VOk.blV (S : SR K M Z H0 F ns H σ ρ) {v : V} {x : Val} {i : Bool} (k : VOk K Z H0 F ns H σ ρ v x) (h : res ρ x = some (.bl i)) : v = .bl i := by
  obtain ⟨ms, r⟩ := k.rep S h
  cases r; rfl
theorem VOk.nonV (S : SR K M Z H0 F ns H σ ρ) {v : V} {x : Val} (k : VOk K Z H0 F ns H σ ρ v x) (h : res ρ x = some .non) : v = .non := by
  obtain ⟨ms, r⟩ := k.rep S h
  cases r; rfl
theorem VOk.strV (S : SR K M Z H0 F ns H σ ρ) {v : V} {x : Val} {z : List Nat} (k : VOk K Z H0 F ns H σ ρ v x) (h : res ρ x = some (.str z)) : ∃ y : Str, v = .str y ∧ y.cps.toList = z := by
  obtain ⟨ms, r⟩ := k.rep S h
  cases r with
  | str e => exact ⟨_, rfl, e⟩
/-- a new list -/
theorem VOk.newL (S : SR K M Z H0 F ns H σ ρ) {p : Addr} (hp : H p = none) {fr : Bool} {vs : List V} {ds : List D} {tl : List Addr} (I : Items K Z H0 H ns ρ fr vs ds tl) : VOk K Z H0 F ns (upd H p (.lst vs)) σ ρ (.ref p) (.f fr ds) :=
  .f upd_same (I.rep.frame (Ext.same (F := fun _ => True) (same_upd hp)) fun _ _ => trivial) (I.rep.notNone hp) I.fre (S.fresh hp) (fun i => S.notIn hp i) I.own (fun f => by
    obtain ⟨o, e⟩ := S.fdm p f
    rw [hp] at e; cases e) fun b hb => (List.mem_cons.mp hb).elim (fun q f => by
    obtain ⟨o, e⟩ := S.zdm b f
    rw [q, hp] at e; cases e) (I.hid b)
theorem VOk.newT (S : SR K M Z H0 F ns H σ ρ) {p : Addr} (hp : H p = none) {fr : Bool} {vs : List V} {ds : List D} {tl : List Addr} (I : Items K Z H0 H ns ρ fr vs ds tl) : VOk K Z H0 F ns (upd H p (.tup vs)) σ ρ (.ref p) (.v fr (.tup ds)) :=
  .v (.tup (.of upd_same) (I.rep.frame (Ext.same (F := fun _ => True) (same_upd hp)) fun _ _ => trivial)) I.fre I.own I.hid
theorem Items.nil : Items K Z H0 H ns ρ true [] [] [] := ⟨.nil, (fun _ _ h => nomatch h), (fun _ _ _ h => nomatch h), (fun _ h => nomatch h)⟩
theorem Items.append {fr gr : Bool} {vs ws : List V} {ds es : List D} {tl ul : List Addr} (I : Items K Z H0 H ns ρ fr vs ds tl) (J : Items K Z H0 H ns ρ gr ws es ul) : Items K Z H0 H ns ρ (fr && gr) (vs ++ ws) (ds ++ es) (tl ++ ul) :=
  ⟨I.rep.append J.rep, fun e b hb => (List.mem_append.mp hb).elim (I.fre (Bool.and_eq_true_iff.mp e).1 b) (J.fre (Bool.and_eq_true_iff.mp e).2 b), fun i a ow hm => (List.mem_append.mp hm).elim (I.own i a ow) (J.own i a ow), fun b hb => (List.mem_append.mp hb).elim (I.hid b) (J.hid b)⟩
theorem Items.sub {fr : Bool} {vs ws : List V} {ds es : List D} {tl ul : List Addr} (I : Items K Z H0 H ns ρ fr vs ds tl) (r : RepL K H ws es ul) (h : ∀ b ∈ ul, b ∈ tl) : Items K Z H0 H ns ρ fr ws es ul :=
  ⟨r, fun e b hb => I.fre e b (h b hb), fun i a ow hm => I.own i a ow (h a hm), fun b hb => I.hid b (h b hb)⟩
theorem Items.get {fr : Bool} {vs : List V} {ds : List D} {tl : List Addr} (I : Items K Z H0 H ns ρ fr vs ds tl) {j : Nat} {d : D} (h : ds[j]? = some d) : ∃ v, vs[j]? = some v ∧ VOk K Z H0 F ns H σ ρ v (.v fr d) := by
  obtain ⟨v, ms, e, r, k⟩ := I.rep.get h
  exact ⟨v, e, .v r (fun q b hb => I.fre q b (k b hb)) (fun i a ow hm => I.own i a ow (k a hm)) fun b hb => I.hid b (k b hb)⟩
end

/-! ### expressions -/
/-- e computes t, which does what p says -/
structure QE (X : Cx) (e : Expr) (t : TE) (p : PX) : Prop where
  pe : PE X e t
  sim : Sim X.K t p

def pVar (i : Nat) : PX := fun ρ P => match ρ[i]? with
  | some (some (.sh fr d)) => P (.v fr d) ρ
  | some (some (.ow _ _ _)) => P (.s i) ρ
  | some (some (.tr _ _)) => P (.s i) ρ
  | _ => False
theorem sim_var {K : PySem.W.Frag} {i : Nat} : Sim K (tVar i) (pVar i) := by
  intro M Z H0 F ns H σ ρ P Q S h k
  unfold pVar at h
  split at h
  · rename_i fr d e
    obtain ⟨v, e1, r, f⟩ := S.cell e
    refine ⟨v, e1, k _ _ H ns ρ S (.refl H) (.refl ρ) (.v r f (fun j a ow hm => ?_) (S.hid i)) h⟩
    by_cases hj : j = i
    · subst hj
      exact (ow.noSh e).elim
    · exact S.exc j i a ow (Ne.symm hj) hm
  · rename_i kk fr ds e
    obtain ⟨v, e1, _⟩ := S.cell e
    exact ⟨v, e1, k _ _ H ns ρ S (.refl H) (.refl ρ) (.s e e1) h⟩
  · rename_i pp dd e
    obtain ⟨v, e1, _⟩ := S.cell e
    exact ⟨v, e1, k _ _ H ns ρ S (.refl H) (.refl ρ) (.s e e1) h⟩
  · exact h.elim

def pC (d : D) : PX := fun ρ P => P (.v true d) ρ
theorem sim_c {K : PySem.W.Frag} {v : V} {d : D} (r : ∀ H, Rep K H v d []) : Sim K (tC v) (pC d) := fun M Z H0 F ns H σ ρ P Q S h k =>
  k _ _ H ns ρ S (.refl H) (.refl ρ) (.v (r H) (fun _ _ h => nomatch h) (fun _ _ _ h => nomatch h) (fun _ h => nomatch h)) h

abbrev KO := Val → Val → Sto → (Val → Sto → Prop) → Prop
/-- a two-place operation on values -/
def OpSim (K : PySem.W.Frag) (r : R2) (k : KO) : Prop := ∀ (M : List Addr) (Z : Addr → Prop) (H0 : Hp) (F : Addr → Prop) (ns : Nat → List Addr) (H : Hp) (σ : L2.St) (ρ : Sto) (P : Val → Sto → Prop) (Q : VK) (x y : Val) (v u : V),
  SR K M Z H0 F ns H σ ρ → VOk K Z H0 F ns H σ ρ v x → VOk K Z H0 F ns H σ ρ u y → k x y ρ P →
  (∀ x v H' ns' ρ', SR K M Z H0 F ns' H' σ ρ' → Ext F H H' → Dom ρ ρ' → VOk K Z H0 F ns' H' σ ρ' v x → P x ρ' → Q v H') → r v u H Q
def pOp (k : KO) (pa pb : PX) : PX := fun ρ P => pa ρ fun x ρ1 => pb ρ1 fun y ρ2 => k x.dn y ρ2 P
theorem sim_op {K : PySem.W.Frag} {r : R2} {k : KO} {ta tb : TE} {pa pb : PX} (hr : OpSim K r k) (ha : Sim K ta pa) (hb : Sim K tb pb) : Sim K (tOp r ta tb) (pOp k pa pb) := by
  intro M Z H0 F ns H σ ρ P Q S h kk
  refine sim_two ha hb (k := fun x y ρ2 => k x y ρ2 P) (R := fun v u H2 => r v u H2 Q) S h fun x y v u H2 ns2 ρ2 S2 e2 d2 vx vy q => ?_
  exact hr M Z H0 F ns2 H2 σ ρ2 P Q x y v u S2 vx vy q fun z w H3 ns3 ρ3 S3 e3 d3 vz p => kk z w H3 ns3 ρ3 S3 (e2.trans e3) (d2.trans d3) vz p
/-- an operation whose answer has no changeable object, that makes none -/
def OpPure (K : PySem.W.Frag) (r : R2) (g : D → D → (D → Prop) → Prop) : Prop := ∀ (H : Hp) (v u : V) (d e : D) (ms ks : List Addr) (C : D → Prop) (Q : VK), Rep K H v d ms → Rep K H u e ks → g d e C → (∀ w z, Rep K H w z [] → C z → Q w H) → r v u H Q
def kP (g : D → D → (D → Prop) → Prop) : KO := fun x y ρ P => match res ρ x, res ρ y with
  | some d, some e => g d e fun z => P (.v true z) ρ
  | _, _ => False
theorem opSim_pure {K : PySem.W.Frag} {r : R2} {g : D → D → (D → Prop) → Prop} (h : OpPure K r g) : OpSim K r (kP g) := by
  intro M Z H0 F ns H σ ρ P Q x y v u S vx vy q k
  unfold kP at q
  split at q
  · rename_i d e hd he
    obtain ⟨ms, r1⟩ := vx.rep S hd
    obtain ⟨ks, r2⟩ := vy.rep S he
    exact h H v u d e ms ks _ Q r1 r2 q fun w z rz c => k _ _ H ns ρ S (.refl H) (.refl ρ) (.v rz (fun _ _ h => nomatch h) (fun _ _ _ h => nomatch h) (fun _ h => nomatch h)) c
  · exact q.elim
theorem OpSim.or1 {K : PySem.W.Frag} {r r' : R2} {k : KO} (h : OpSim K r k) : OpSim K (fun x y H Q => r x y H Q ∨ r' x y H Q) k := fun M Z H0 F ns H σ ρ P Q x y v u S vx vy q kk => .inl (h M Z H0 F ns H σ ρ P Q x y v u S vx vy q kk)
theorem OpSim.or2 {K : PySem.W.Frag} {r r' : R2} {k : KO} (h : OpSim K r' k) : OpSim K (fun x y H Q => r x y H Q ∨ r' x y H Q) k := fun M Z H0 F ns H σ ρ P Q x y v u S vx vy q kk => .inr (h M Z H0 F ns H σ ρ P Q x y v u S vx vy q kk)
theorem OpR_or {X : Cx} {f : Value → Value → Sem Value} {r r' : R2} (h : OpR X f r) (h' : OpR X f r') : OpR X f (fun x y H Q => r x y H Q ∨ r' x y H Q) := by
  intro pins s σ H x y v u Q I rx ry q
  rcases q with q | q
  · exact h pins s σ H x y v u Q I rx ry q
  · exact h' pins s σ H x y v u Q I rx ry q

/-! ints -/
def gI (C : Int → Int → Prop) (f : Int → Int → D) : D → D → (D → Prop) → Prop := fun d e P => match d, e with
  | .int i, .int j => C i j ∧ P (f i j)
  | _, _ => False
theorem opPure_I {K : PySem.W.Frag} {C : Int → Int → Prop} {f : Int → Int → Int} : OpPure K (rI C fun i j => .int (f i j)) (gI C fun i j => .int (f i j)) := by
  intro H v u d e ms ks P Q r1 r2 g k
  cases d <;> cases e <;> first | exact g.elim | skip
  cases r1; cases r2
  exact ⟨_, _, rfl, rfl, g.1, k _ _ (.int _) g.2⟩
def gI0 (f : Int → Int → D) : D → D → (D → Prop) → Prop := fun d e P => match d, e with
  | .int i, .int j => P (f i j)
  | _, _ => False
theorem opPure_I0 {K : PySem.W.Frag} {f : Int → Int → Int} : OpPure K (rI0 fun i j => .int (f i j)) (gI0 fun i j => .int (f i j)) := by
  intro H v u d e ms ks P Q r1 r2 g k
  cases d <;> cases e <;> first | exact g.elim | skip
  cases r1; cases r2
  exact ⟨_, _, rfl, rfl, k _ _ (.int _) g⟩
theorem opPure_B0 {K : PySem.W.Frag} {f : Int → Int → Bool} : OpPure K (rI0 fun i j => .bl (f i j)) (gI0 fun i j => .bl (f i j)) := by
  intro H v u d e ms ks P Q r1 r2 g k
  cases d <;> cases e <;> first | exact g.elim | skip
  cases r1; cases r2
  exact ⟨_, _, rfl, rfl, k _ _ (.bl _) g⟩

/-! + -/
/-- list + list, as they stand -/
theorem add_rows (l : Addr) (items : Array Value) (n : Nat) (sl : Array (Option Value)) (b : Addr) (items2 : Array Value) (n2 : Nat) (sl2 : Array (Option Value)) (hc : items.size + items2.size ≤ sizeLine) :
    Meets (Builtin.«list.__add__» ⟨[.ref l, .ref b], []⟩) (fun _ R s => s.heap.get? l = some { cls := .type "list", dict := none, data := .seq items n, slots := sl } ∧ s.heap.get? b = some { cls := .type "list", dict := none, data := .seq items2 n2, slots := sl2 } ∧
      R (.ok (.ret (Value.ref s.heap.objs.size))) { s with heap := s.heap.push { cls := .type "list", data := .seq (items ++ items2) } }) :=
  .of_wp fun prog w A R s h => by
    obtain ⟨hp, g, d, tk, os⟩ := s
    obtain ⟨hl, hb, h⟩ := h
    have f3 := AutoSeq1.sub_list_list
    wp_walk using AutoSeq1.wpAny_loadPart' hl, AutoSeq1.wpAny_loadPart' hb
    exact ⟨_, rfl, h⟩
def rCatL (K : PySem.W.Frag) : R2 := fun x y H Q => ∃ a b xs ys, x = .ref a ∧ y = .ref b ∧ SqL K H a xs ∧ SqL K H b ys ∧ xs.length + ys.length ≤ sizeLine ∧ ∀ p, H p = none → Q (.ref p) (upd H p (.lst (xs ++ ys)))
theorem op_catL {X : Cx} : OpR X (binaryOp .Add) (rCatL X.K) := by
  intro pins s σ H x y v u Q I rx ry h
  obtain ⟨a, b, xs, ys, rfl, rfl, hA, hB, hz, q⟩ := h
  cases rx
  cases ry
  obtain ⟨its, r, ⟨o, n, e, ec, ed, eo⟩, hl⟩ := I.list hA
  obtain ⟨its2, r2, ⟨o2, n2, e2, ec2, ed2, eo2⟩, hl2⟩ := I.list hB
  obtain ⟨c, d, dt, sl⟩ := o
  obtain ⟨c2, d2, dt2, sl2⟩ := o2
  cases ec; cases ed; cases eo; cases ec2; cases ed2; cases eo2
  have l1 := r.length
  have l2 := r2.length
  refine concat_meets (T := "list") ⟨_, e, rfl⟩ ⟨_, e2, rfl⟩ noFill_list_add seq_list_add F.slot_list_add F.entry_list_add (F.args_list_add_2 _ _) (add_rows a its.toArray n sl b its2.toArray n2 sl2 (by rw [List.size_toArray, List.size_toArray]; omega)) ⟨e, e2, ?_⟩
  have ea : its.toArray ++ its2.toArray = (its ++ its2).toArray := by simp
  rw [ea]
  exact ⟨.ref _, _, I.lnew (t' := s.toks) (r.append r2) (by rw [List.length_append]; omega), rfl, q _ I.fresh⟩
def rAddS : R2 := fun x y H Q => ∃ i j, x = .str i ∧ y = .str j ∧ i.length + j.length ≤ sizeLine ∧ Q (.str (i ++ j)) H
def rAdd (K : PySem.W.Frag) : R2 := fun x y H Q => rI0 (fun i j => .int (i + j)) x y H Q ∨ rAddS x y H Q ∨ rCatL K x y H Q ∨ rCatA K x y H Q
theorem op_addAny {X : Cx} : OpR X (binaryOp .Add) (rAdd X.K) := OpR_or op_add (OpR_or op_add_str (OpR_or op_catL op_catA))
def kAdd : KO := fun x y ρ P => match res ρ x, res ρ y with
  | some (.int i), some (.int j) => P (.v true (.int (i + j))) ρ
  | some (.str a), some (.str b) => a.length + b.length ≤ sizeLine ∧ P (.v true (.str (a ++ b))) ρ
  | some (.lst a), some (.lst b) => a.length + b.length ≤ sizeLine ∧ P (.f (resF ρ x && resF ρ y) (a ++ b)) ρ
  | some (.lsr a), some (.lst b) => a.length + b.length ≤ sizeLine ∧ P (.f (resF ρ x && resF ρ y) (a ++ b)) ρ
  | some (.lst a), some (.lsr b) => a.length + b.length ≤ sizeLine ∧ P (.f (resF ρ x && resF ρ y) (a ++ b)) ρ
  | some (.lsr a), some (.lsr b) => a.length + b.length ≤ sizeLine ∧ P (.f (resF ρ x && resF ρ y) (a ++ b)) ρ
  | some (.tup a), some (.tup b) => a.length + b.length ≤ sizeLine ∧ P (.v (resF ρ x && resF ρ y) (.tup (a ++ b))) ρ
  | _, _ => False
theorem str_append {a b : Str} {x y : List Nat} (h : a.cps.toList = x) (h' : b.cps.toList = y) : (a ++ b).cps.toList = x ++ y := by
  show (a.cps ++ b.cps).toList = _
  rw [Array.toList_append, h, h']
theorem str_len {a : Str} {x : List Nat} (h : a.cps.toList = x) : a.length = x.length := by
  show a.cps.size = _
  rw [← h, Array.length_toList]
theorem VOk.both {K : PySem.W.Frag} {Z : Addr → Prop} {H0 H : Hp} {F : Addr → Prop} {ns : Nat → List Addr} {σ : L2.St} {ρ : Sto} {v : V} {fr gr : Bool} {d : D} (k : VOk K Z H0 F ns H σ ρ v (.v fr d)) (h : gr = true → fr = true) : VOk K Z H0 F ns H σ ρ v (.v gr d) := by
  cases k with
  | v r f o y => exact .v r (fun e => f (h e)) o y
theorem sim_add {K : PySem.W.Frag} : OpSim K (rAdd K) kAdd := by
  intro M Z H0 F ns H σ ρ P Q x y v u S vx vy q k
  unfold kAdd at q
  split at q
  · rename_i i j hx hy
    rw [vx.intV S hx, vy.intV S hy]
    exact .inl ⟨_, _, rfl, rfl, k _ _ H ns ρ S (.refl H) (.refl ρ) (.int _) q⟩
  · rename_i a b hx hy
    obtain ⟨s1, rfl, e1⟩ := vx.strV S hx
    obtain ⟨s2, rfl, e2⟩ := vy.strV S hy
    refine .inr (.inl ⟨_, _, rfl, rfl, by rw [str_len e1, str_len e2]; exact q.1, k _ _ H ns ρ S (.refl H) (.refl ρ) (.str (str_append e1 e2)) q.2⟩)
  · rename_i a b hx hy
    obtain ⟨p1, vs, tl, rfl, h1, I1⟩ := vx.seqL S (.inl hx)
    obtain ⟨p2, ws, ul, rfl, h2, I2⟩ := vy.seqL S (.inl hy)
    refine .inr (.inr (.inl ⟨_, _, _, _, rfl, rfl, h1, h2, by rw [I1.rep.length, I2.rep.length]; exact q.1, fun p hp => ?_⟩))
    exact k _ _ _ ns ρ (S.grow (same_upd hp)) (.same (same_upd hp)) (.refl ρ) (VOk.newL S hp (I1.append I2)) q.2
  · rename_i a b hx hy
    obtain ⟨p1, vs, tl, rfl, h1, I1⟩ := vx.seqL S (.inr hx)
    obtain ⟨p2, ws, ul, rfl, h2, I2⟩ := vy.seqL S (.inl hy)
    refine .inr (.inr (.inl ⟨_, _, _, _, rfl, rfl, h1, h2, by rw [I1.rep.length, I2.rep.length]; exact q.1, fun p hp => ?_⟩))
    exact k _ _ _ ns ρ (S.grow (same_upd hp)) (.same (same_upd hp)) (.refl ρ) (VOk.newL S hp (I1.append I2)) q.2
  · rename_i a b hx hy
    obtain ⟨p1, vs, tl, rfl, h1, I1⟩ := vx.seqL S (.inl hx)
    obtain ⟨p2, ws, ul, rfl, h2, I2⟩ := vy.seqL S (.inr hy)
    refine .inr (.inr (.inl ⟨_, _, _, _, rfl, rfl, h1, h2, by rw [I1.rep.length, I2.rep.length]; exact q.1, fun p hp => ?_⟩))
    exact k _ _ _ ns ρ (S.grow (same_upd hp)) (.same (same_upd hp)) (.refl ρ) (VOk.newL S hp (I1.append I2)) q.2
  · rename_i a b hx hy
    obtain ⟨p1, vs, tl, rfl, h1, I1⟩ := vx.seqL S (.inr hx)
    obtain ⟨p2, ws, ul, rfl, h2, I2⟩ := vy.seqL S (.inr hy)
    refine .inr (.inr (.inl ⟨_, _, _, _, rfl, rfl, h1, h2, by rw [I1.rep.length, I2.rep.length]; exact q.1, fun p hp => ?_⟩))
    exact k _ _ _ ns ρ (S.grow (same_upd hp)) (.same (same_upd hp)) (.refl ρ) (VOk.newL S hp (I1.append I2)) q.2
  · rename_i a b hx hy
    obtain ⟨p1, vs, tl, rfl, h1, I1⟩ := vx.tup S hx
    obtain ⟨p2, ws, ul, rfl, h2, I2⟩ := vy.tup S hy
    have I := I1.append I2
    refine .inr (.inr (.inr ⟨_, _, _, _, rfl, rfl, h1, h2, by rw [I1.rep.length, I2.rep.length]; exact q.1, fun e => ?_, fun _ e => ?_, fun _ _ p hp => ?_⟩))
    · subst e
      have ea : a = [] := by have := I1.rep.length; simpa using this.symm
      subst ea
      refine k _ _ H ns ρ S (.refl H) (.refl ρ) (.v (.tup h2 I2.rep) (fun e => I2.fre (Bool.and_eq_true_iff.mp e).2) I2.own I2.hid) q.2
    · subst e
      have eb : b = [] := by have := I2.rep.length; simpa using this.symm
      subst eb
      rw [List.append_nil] at q
      refine k _ _ H ns ρ S (.refl H) (.refl ρ) (.v (.tup h1 I1.rep) (fun e => I1.fre (Bool.and_eq_true_iff.mp e).1) I1.own I1.hid) q.2
    · exact k _ _ _ ns ρ (S.grow (same_upd hp)) (.same (same_upd hp)) (.refl ρ) (VOk.newT S hp I) q.2
  · exact q.elim
end Qq

namespace Qq
open PySem PySem.Spec PyProof.Rows L2

/-! ### data that == tells apart -/
mutual
def D.py : D → PyData
  | .non => .none
  | .bl b => .bool b
  | .int i => .int i
  | .str x => .str ⟨x.toArray⟩
  | .tup ds => .tuple (D.pys ds)
  | .lst ds => .list (D.pys ds)
  | .lsr ds => .list (D.pys ds)
  | .obj _ _ _ _ => .dict []
  | .dic _ _ => .dict []
  | .ty _ => .dict []
  | .cls _ => .dict []
  | .exn _ _ _ => .dict []
def D.pys : List D → List PyData
  | [] => []
  | d :: ds => D.py d :: D.pys ds
end
theorem D.pys_map : ∀ ds : List D, D.pys ds = ds.map D.py
  | [] => by simp [D.pys]
  | d :: ds => by simp [D.pys, D.pys_map ds]
mutual
theorem Rep.dp {K : PySem.W.Frag} {H : Hp} : ∀ {v : V} {d : D} {ns : List Addr}, Rep K H v d ns → d.py.canLay0 = true → Dp K H v d.py
  | _, _, _, .non, _ => by rw [D.py]; exact .non
  | _, _, _, .bl b, _ => by rw [D.py]; exact .bl b
  | _, _, _, .int i, _ => by rw [D.py]; exact .int i
  | _, _, _, .ty _, e => by simp [D.py, PyData.canLay0] at e
  | _, _, _, .cls _, e => by simp [D.py, PyData.canLay0] at e
  | _, _, _, .str (z := z) h, _ => by
    rw [D.py, ← h]
    exact .str z
  | _, _, _, .tup h r, e => by
    rw [D.py] at e ⊢
    exact .tup h (RepL.dp r (by simpa [PyData.canLay0] using e))
  | _, _, _, .lst h r, e => by
    rw [D.py] at e ⊢
    exact .lst (.of h) (RepL.dp r (by simpa [PyData.canLay0] using e))
  | _, _, _, .lstR h r, e => by
    rw [D.py] at e ⊢
    exact .lst (h H fun _ _ q => q) (RepL.dp r (by simpa [PyData.canLay0] using e))
  | _, _, _, .obj _ _ _ _, e => by simp [D.py, PyData.canLay0] at e
  | _, _, _, .dic _ _ _, e => by simp [D.py, PyData.canLay0] at e
  | _, _, _, .exn0 _, e => by simp [D.py, PyData.canLay0] at e
  | _, _, _, .exn1 _ _ _ _, e => by simp [D.py, PyData.canLay0] at e
theorem RepL.dp {K : PySem.W.Frag} {H : Hp} : ∀ {vs : List V} {ds : List D} {ns : List Addr}, RepL K H vs ds ns → PyData.canLayAll0 (D.pys ds) = true → DpAll K H vs (D.pys ds)
  | _, _, _, .nil, _ => by rw [D.pys]; exact .nil
  | _, _, _, .cons (d := d) (ds := ds) r t _, e => by
    rw [D.pys] at e ⊢
    have e' : d.py.canLay0 = true ∧ PyData.canLayAll0 (D.pys ds) = true := by simpa [PyData.canLayAll0] using e
    exact .cons (Rep.dp r e'.1) (RepL.dp t e'.2)
end
/-- such data -/
def Plain (d : D) : Prop := SeqAt.shaped d.py = true
/-- d == e -/
def deq (d e : D) : Bool := PyData.eqv d.py e.py
def gEq : D → D → (D → Prop) → Prop := fun d e P => Plain d ∧ Plain e ∧ P (.bl (deq d e))
def gNe : D → D → (D → Prop) → Prop := fun d e P => Plain d ∧ Plain e ∧ P (.bl (!deq d e))
theorem opPure_eq {K : PySem.W.Frag} : OpPure K (rEqD K) gEq := fun H v u d e ms ks P Q r1 r2 g k =>
  ⟨_, _, r1.dp (SeqAt.canLay_of_shaped g.1), r2.dp (SeqAt.canLay_of_shaped g.2.1), g.1, g.2.1, k _ _ (.bl _) g.2.2⟩
theorem opPure_ne {K : PySem.W.Frag} : OpPure K (rNeD K) gNe := fun H v u d e ms ks P Q r1 r2 g k =>
  ⟨_, _, r1.dp (SeqAt.canLay_of_shaped g.1), r2.dp (SeqAt.canLay_of_shaped g.2.1), g.1, g.2.1, k _ _ (.bl _) g.2.2⟩

/-! order: ints, texts -/
def rOrd (f : Int → Int → Bool) (g : List Nat → List Nat → Bool) : R2 := fun x y H Q => (rI0 fun i j => .bl (f i j)) x y H Q ∨ ∃ i j, x = .str i ∧ y = .str j ∧ Q (.bl (g i.cps.toList j.cps.toList)) H
def gOrd (f : Int → Int → Bool) (g : List Nat → List Nat → Bool) : D → D → (D → Prop) → Prop := fun d e P => match d, e with
  | .int i, .int j => P (.bl (f i j))
  | .str a, .str b => P (.bl (g a b))
  | _, _ => False
theorem opPure_ord {K : PySem.W.Frag} {f : Int → Int → Bool} {g : List Nat → List Nat → Bool} : OpPure K (rOrd f g) (gOrd f g) := by
  intro H v u d e ms ks P Q r1 r2 h k
  cases d <;> cases e <;> first | exact h.elim | skip
  · cases r1; cases r2
    exact .inl ⟨_, _, rfl, rfl, k _ _ (.bl _) h⟩
  · cases r1 with
    | str e1 =>
      cases r2 with
      | str e2 =>
        refine .inr ⟨_, _, rfl, rfl, ?_⟩
        rw [e1, e2]
        exact k _ _ (.bl _) h
section
variable {X : Cx}
theorem op_ltA : OpR X (compareOp .Lt) (rOrd (fun i j => decide (i < j)) fun a b => decide (a < b)) := OpR_or op_lt op_lt_str
theorem op_leA : OpR X (compareOp .LtE) (rOrd (fun i j => decide (i ≤ j)) fun a b => !decide (b < a)) := OpR_or op_le op_le_str
theorem op_gtA : OpR X (compareOp .Gt) (rOrd (fun i j => decide (j < i)) fun a b => decide (b < a)) := OpR_or op_gt op_gt_str
theorem op_geA : OpR X (compareOp .GtE) (rOrd (fun i j => decide (j ≤ i)) fun a b => !decide (a < b)) := OpR_or op_ge op_ge_str
end

/-! in, not in -/
def rInA (K : PySem.W.Frag) (neg : Bool) : R2 := fun x y H Q => (∃ d ds, Dp K H x d ∧ Dp K H y (.list ds) ∧ SeqAt.shaped d = true ∧ SeqAt.shaped (.list ds) = true ∧ Q (.bl (if neg then !(ds.any fun z => PyData.eqv z d) else ds.any fun z => PyData.eqv z d)) H) ∨ rIn K neg x y H Q
theorem op_inA {X : Cx} (hu : X.A.units + 65 < cLine) : OpR X (compareOp .In) (rInA X.K false) := OpR_or (op_inD hu) op_in_seq
theorem op_notInA {X : Cx} (hu : X.A.units + 65 < cLine) : OpR X (compareOp .NotIn) (rInA X.K true) := OpR_or (op_notInD hu) op_notIn_seq
def D.flat : D → Bool
  | .non => true | .bl _ => true | .int _ => true | .str _ => true
  | _ => false
theorem Rep.flatV {K : PySem.W.Frag} {H : Hp} {v : V} {d : D} {ns : List Addr} (r : Rep K H v d ns) (h : d.flat = true) : flatV v = true := by
  cases r <;> first | rfl | exact absurd h Bool.false_ne_true
theorem Rep.eqV {K : PySem.W.Frag} {H : Hp} {v u : V} {d e : D} {ns ms : List Addr} (r : Rep K H v d ns) (q : Rep K H u e ms) (h : d.flat = true) (h' : e.flat = true) : eqV v u = deq d e := by
  cases r <;> first | exact absurd h Bool.false_ne_true | skip
  all_goals (cases q <;> first | exact absurd h' Bool.false_ne_true | skip)
  all_goals first | rfl | skip
  all_goals first | (simp [L2.eqV, deq, D.py, PyData.eqv]; done) | skip
  rename_i z x hz y w hw
  subst hz hw
  simp [L2.eqV, deq, D.py, PyData.eqv]
theorem RepL.inV {K : PySem.W.Frag} {H : Hp} {v : V} {d : D} {ms : List Addr} (r : Rep K H v d ms) (h : d.flat = true) : ∀ {vs : List V} {ds : List D} {ns : List Addr}, RepL K H vs ds ns → ds.all D.flat = true → vs.all L2.flatV = true ∧ L2.inV v vs = ds.any fun z => deq z d
  | _, _, _, .nil, _ => ⟨rfl, rfl⟩
  | _, _, _, .cons (v := w) (vs := ws) (d := d') (ds := ds') q t _, e => by
    have e' : d'.flat = true ∧ ds'.all D.flat = true := Bool.and_eq_true_iff.mp (by rw [← List.all_cons]; exact e)
    obtain ⟨h1, h2⟩ := RepL.inV r h t e'.2
    refine ⟨by rw [List.all_cons, q.flatV e'.1, h1]; rfl, ?_⟩
    show (L2.eqV w v || L2.inV v ws) = (deq d' d || ds'.any fun z => deq z d)
    rw [q.eqV r e'.1 h, h2]
/-- x in xs: lists of any data, tuples of flat data -/
def gIn (neg : Bool) : D → D → (D → Prop) → Prop := fun d e P => match e with
  | .lst ds => Plain d ∧ Plain (.lst ds) ∧ P (.bl (if neg then !(ds.any fun z => deq z d) else ds.any fun z => deq z d))
  | .lsr ds => Plain d ∧ Plain (.lst ds) ∧ P (.bl (if neg then !(ds.any fun z => deq z d) else ds.any fun z => deq z d))
  | .tup ds => d.flat = true ∧ ds.all D.flat = true ∧ P (.bl (if neg then !(ds.any fun z => deq z d) else ds.any fun z => deq z d))
  | _ => False
theorem any_pys (ds : List D) (d : D) : ((D.pys ds).any fun z => PyData.eqv z d.py) = ds.any fun z => deq z d := by
  rw [D.pys_map, List.any_map]; rfl
theorem opPure_in {K : PySem.W.Frag} {neg : Bool} : OpPure K (rInA K neg) (gIn neg) := by
  intro H v u d e ms ks P Q r1 r2 h k
  cases e <;> first | exact h.elim | skip
  · rename_i ds
    obtain ⟨h1, h2, h3⟩ := h
    cases r2 with
    | tup t r =>
      obtain ⟨f1, f2⟩ := RepL.inV r1 h1 r h2
      refine .inr ⟨_, _, rfl, .inr t, r1.flatV h1, f1, ?_⟩
      rw [f2]
      exact k _ _ (.bl _) h3
  · rename_i ds
    obtain ⟨h1, h2, h3⟩ := h
    refine .inl ⟨d.py, D.pys ds, r1.dp (SeqAt.canLay_of_shaped h1), ?_, h1, by simpa [Plain, D.py] using h2, ?_⟩
    · have := r2.dp (SeqAt.canLay_of_shaped h2)
      simpa [D.py] using this
    · rw [any_pys]
      exact k _ _ (.bl _) h3
  · rename_i ds
    obtain ⟨h1, h2, h3⟩ := h
    refine .inl ⟨d.py, D.pys ds, r1.dp (SeqAt.canLay_of_shaped h1), ?_, h1, by simpa [Plain, D.py] using h2, ?_⟩
    · have := r2.dp (SeqAt.canLay_of_shaped (by simpa [Plain, D.py] using h2))
      simpa [D.py] using this
    · rw [any_pys]
      exact k _ _ (.bl _) h3

/-! is, is not: None, truths -/
def rIsA : R2 := fun x y H Q => (y = .non ∧ Q (.bl (decide (x = .non))) H) ∨ ∃ a b, x = .bl a ∧ y = .bl b ∧ Q (.bl (decide (a = b))) H
def rIsNotA : R2 := fun x y H Q => (y = .non ∧ Q (.bl (!decide (x = .non))) H) ∨ ∃ a b, x = .bl a ∧ y = .bl b ∧ Q (.bl (!decide (a = b))) H
theorem op_isA {X : Cx} : OpR X (compareOp .Is) rIsA := OpR_or op_isN op_is_bl
theorem op_isNotA {X : Cx} : OpR X (compareOp .IsNot) rIsNotA := OpR_or op_notN op_isnot_bl
def D.isNon : D → Bool
  | .non => true
  | _ => false
def gIs (f : Bool → D) : D → D → (D → Prop) → Prop := fun d e P => match d, e with
  | d, .non => P (f d.isNon)
  | .bl a, .bl b => P (f (decide (a = b)))
  | _, _ => False
theorem Rep.isNon {K : PySem.W.Frag} {H : Hp} {v : V} {d : D} {ns : List Addr} (r : Rep K H v d ns) : decide (v = .non) = d.isNon := by
  cases r <;> simp [D.isNon]
theorem opPure_is {K : PySem.W.Frag} : OpPure K rIsA (gIs .bl) := by
  intro H v u d e ms ks P Q r1 r2 h k
  cases e <;> first | (cases d <;> exact h.elim) | skip
  · cases r2
    refine .inl ⟨rfl, ?_⟩
    rw [r1.isNon]
    exact k _ _ (.bl _) (by cases d <;> exact h)
  · cases d <;> first | exact h.elim | skip
    cases r1; cases r2
    exact .inr ⟨_, _, rfl, rfl, k _ _ (.bl _) h⟩
theorem opPure_isNot {K : PySem.W.Frag} : OpPure K rIsNotA (gIs fun b => .bl (!b)) := by
  intro H v u d e ms ks P Q r1 r2 h k
  cases e <;> first | (cases d <;> exact h.elim) | skip
  · cases r2
    refine .inl ⟨rfl, ?_⟩
    rw [r1.isNon]
    exact k _ _ (.bl _) (by cases d <;> exact h)
  · cases d <;> first | exact h.elim | skip
    cases r1; cases r2
    exact .inr ⟨_, _, rfl, rfl, k _ _ (.bl _) h⟩

/-! * -/
def CMulA (i j : Int) : Prop := (i.natAbs < 2 ^ 64 ∨ j.natAbs < 2 ^ 64) ∨ CMulW i j
theorem CMulA.ok {i j : Int} (h : CMulA i j) : IntMulOk i j := by
  rcases h with h | h
  · refine CMul.ok ?_
    rcases h with h | h
    · left; omega
    · right; omega
  · exact h.ok
theorem op_mulA {X : Cx} : OpR X (binaryOp .Mult) (rI CMulA fun i j => .int (i * j)) := opI fun _ _ _ _ _ _ _ hc q => mul_int q hc.ok
def rMulS : R2 := fun x y H Q => ∃ z n, x = .str z ∧ y = .int n ∧ -(2 ^ 63) ≤ n ∧ n < 2 ^ 63 ∧ z.length * n.toNat ≤ sizeLine ∧ Q (.str (Txt.mul z n)) H
theorem op_mul_str {X : Cx} : OpR X (binaryOp .Mult) rMulS := by
  intro pins s σ H x y v u Q I rx ry h
  obtain ⟨z, n, rfl, rfl, h1, h2, h3, q⟩ := h
  obtain ⟨t, rfl⟩ := rx
  obtain ⟨t', rfl⟩ := ry
  have hs : sizeLine = 16777216 := sizeLine_eq
  refine SB.mul ⟨?_, fun hn he => ?_, fun hn he => ?_⟩ fun tk k => ⟨.str _, H, I.tok _, ⟨_, rfl⟩, q⟩
  · rw [decide_eq_false (by omega), decide_eq_false (by omega)]; rfl
  · have hn1 : 0 < n := by omega
    have hz : (z.length : Int) * n ≤ 16777216 := by
      have : ((z.length * n.toNat : Nat) : Int) ≤ 16777216 := by omega
      rw [Int.natCast_mul, Int.toNat_of_nonneg (by omega)] at this
      exact this
    have : (z.length : Int) ≤ (2 ^ 63 - 1) / n := (Int.le_ediv_iff_mul_le hn1).mpr (by omega)
    omega
  · exact decide_eq_false (by omega)
theorem toList_rep (a : Array Nat) : ∀ (k : Nat) (b : Array Nat), ((List.replicate k a).foldl (· ++ ·) b).toList = b.toList ++ (List.replicate k a.toList).flatten
  | 0, b => by simp
  | k + 1, b => by
    rw [List.replicate_succ, List.foldl_cons, toList_rep a k, List.replicate_succ, List.flatten_cons, Array.toList_append, List.append_assoc]
/-- a text, so many times -/
theorem mul_toList {z : Str} {x : List Nat} (h : z.cps.toList = x) (n : Int) : (Txt.mul z n).cps.toList = (List.replicate n.toNat x).flatten := by
  unfold Txt.mul
  by_cases h1 : n < 1
  · rw [if_pos h1]
    have : n.toNat = 0 := by omega
    rw [this]; rfl
  · rw [if_neg h1]
    by_cases h2 : (n == 1 || z.length == 0) = true
    · first
        | rw [if_pos h2]
        | skip
      rcases Bool.or_eq_true_iff.mp h2 with e | e
      · have : n = 1 := by simpa using e
        subst this
        simp [h]
      · have hz : z.cps.toList = [] := by
          have : z.cps.size = 0 := by simpa [Str.length] using e
          exact List.eq_nil_of_length_eq_zero (by simpa using this)
        rw [hz] at h
        subst h
        first | (simp [hz]; done) | simp [toList_rep, hz]
    · first
        | rw [if_neg h2]
        | skip
      simp [toList_rep, h]
def rMulA : R2 := fun x y H Q => rI CMulA (fun i j => .int (i * j)) x y H Q ∨ rMulS x y H Q ∨ rRep x y H Q
theorem op_mulAny {X : Cx} : OpR X (binaryOp .Mult) rMulA := OpR_or op_mulA (OpR_or op_mul_str op_rep)
def kMul : KO := fun x y ρ P => match res ρ x, res ρ y with
  | some (.int i), some (.int j) => CMulA i j ∧ P (.v true (.int (i * j))) ρ
  | some (.str a), some (.int n) => (-(2 ^ 63) ≤ n ∧ n < 2 ^ 63 ∧ a.length * n.toNat ≤ sizeLine) ∧ P (.v true (.str (List.replicate n.toNat a).flatten)) ρ
  | some (.lst a), some (.int n) => (-(2 ^ 63) ≤ n ∧ n < 2 ^ 63 ∧ a.length * n.toNat ≤ sizeLine) ∧ P (.f (resF ρ x) (List.replicate n.toNat a).flatten) ρ
  | _, _ => False
theorem sim_mul {K : PySem.W.Frag} : OpSim K rMulA kMul := by
  intro M Z H0 F ns H σ ρ P Q x y v u S vx vy q k
  unfold kMul at q
  split at q
  · rename_i i j hx hy
    rw [vx.intV S hx, vy.intV S hy]
    exact .inl ⟨_, _, rfl, rfl, q.1, k _ _ H ns ρ S (.refl H) (.refl ρ) (.int _) q.2⟩
  · rename_i a n hx hy
    obtain ⟨s1, rfl, e1⟩ := vx.strV S hx
    rw [vy.intV S hy]
    exact .inr (.inl ⟨_, _, rfl, rfl, q.1.1, q.1.2.1, by rw [str_len e1]; exact q.1.2.2, k _ _ H ns ρ S (.refl H) (.refl ρ) (.str (mul_toList e1 n)) q.2⟩)
  · rename_i a n hx hy
    obtain ⟨p1, vs, tl, rfl, h1, I1⟩ := vx.lst S hx
    rw [vy.intV S hy]
    obtain ⟨ms, r, hm⟩ := I1.rep.rep n.toNat
    refine .inr (.inr ⟨_, _, _, rfl, rfl, h1, q.1.1, q.1.2.1, by rw [I1.rep.length]; exact q.1.2.2, fun p hp => ?_⟩)
    exact k _ _ _ ns ρ (S.grow (same_upd hp)) (.same (same_upd hp)) (.refl ρ) (VOk.newL S hp (I1.sub r hm)) q.2
  · exact q.elim

/-! - // % and the like, of ints -/
def CDivA (_ j : Int) : Prop := 0 < j ∧ j < 2 ^ 8000
theorem CDivA.w {i j : Int} (h : CDivA i j) : CDivW i j := by
  refine wide_div (b := 8000) h.1 ?_ (by decide) (by decide)
  have h1 := h.1
  have h2 := h.2
  have e : ((j.natAbs : Nat) : Int) = j := Int.natAbs_of_nonneg (Int.le_of_lt h1)
  have : ((j.natAbs : Nat) : Int) < ((2 ^ 8000 : Nat) : Int) := by rw [e]; exact_mod_cast h2
  exact_mod_cast this
theorem op_fdivA {X : Cx} : OpR X (binaryOp .FloorDiv) (rI CDivA fun i j => .int (i / j)) := fun pins s σ H x y v u Q I rx ry ⟨i, j, e1, e2, c, q⟩ => op_fdivW pins s σ H x y v u Q I rx ry ⟨i, j, e1, e2, c.w, q⟩

/-! items -/
def kIx : KO := fun x y ρ P => match res ρ x, res ρ y with
  | some (.lst a), some (.int i) => ∃ d, atI a i = some d ∧ P (.v (resF ρ x) d) ρ
  | some (.lsr a), some (.int i) => ∃ d, atI a i = some d ∧ P (.v (resF ρ x) d) ρ
  | some (.tup a), some (.int i) => ∃ d, atI a i = some d ∧ P (.v (resF ρ x) d) ρ
  | some (.str a), some (.int i) => a.length ≤ sizeLine ∧ ∃ c, atI a i = some c ∧ P (.v true (.str [c])) ρ
  | _, _ => False
theorem atI_rep {K : PySem.W.Frag} {Z : Addr → Prop} {H0 H : Hp} {F : Addr → Prop} {ns : Nat → List Addr} {σ : L2.St} {ρ : Sto} {fr : Bool} {vs : List V} {ds : List D} {tl : List Addr} (I : Items K Z H0 H ns ρ fr vs ds tl) {i : Int} {d : D} (h : atI ds i = some d) :
    ∃ v, atI vs i = some v ∧ VOk K Z H0 F ns H σ ρ v (.v fr d) := by
  unfold atI at h ⊢
  rw [I.rep.length]
  cases e : ixN ds.length i with
  | none => rw [e] at h; cases h
  | some j =>
    rw [e] at h
    exact I.get h
theorem sim_ix {K : PySem.W.Frag} : OpSim K (rIx K) kIx := by
  intro M Z H0 F ns H σ ρ P Q x y v u S vx vy q k
  unfold kIx at q
  split at q
  · rename_i a i hx hy
    obtain ⟨d, hd, q⟩ := q
    obtain ⟨p1, vs, tl, rfl, h1, I1⟩ := vx.seqL S (.inl hx)
    rw [vy.intV S hy]
    obtain ⟨w, hw, vw⟩ := atI_rep (σ := σ) I1 hd
    exact .inl ⟨_, _, _, _, rfl, rfl, h1, hw, k _ _ H ns ρ S (.refl H) (.refl ρ) vw q⟩
  · rename_i a i hx hy
    obtain ⟨d, hd, q⟩ := q
    obtain ⟨p1, vs, tl, rfl, h1, I1⟩ := vx.seqL S (.inr hx)
    rw [vy.intV S hy]
    obtain ⟨w, hw, vw⟩ := atI_rep (σ := σ) I1 hd
    exact .inl ⟨_, _, _, _, rfl, rfl, h1, hw, k _ _ H ns ρ S (.refl H) (.refl ρ) vw q⟩
  · rename_i a i hx hy
    obtain ⟨d, hd, q⟩ := q
    obtain ⟨p1, vs, tl, rfl, h1, I1⟩ := vx.tup S hx
    rw [vy.intV S hy]
    obtain ⟨w, hw, vw⟩ := atI_rep (σ := σ) I1 hd
    exact .inr (.inl ⟨_, _, _, _, rfl, rfl, h1, hw, k _ _ H ns ρ S (.refl H) (.refl ρ) vw q⟩)
  · rename_i a i hx hy
    obtain ⟨hl, c, hc, q⟩ := q
    obtain ⟨z, rfl, e⟩ := vx.strV S hx
    rw [vy.intV S hy]
    exact .inr (.inr ⟨_, _, _, rfl, rfl, by rw [str_len e]; exact hl, by rw [e]; exact hc, k _ _ H ns ρ S (.refl H) (.refl ρ) (.str rfl) q⟩)
  · exact q.elim

/-! slices -/
def cut {α : Type} (xs : List α) (lo hi : Option Int) : List α := (xs.drop (HT.sIx xs.length 0 lo)).take (HT.sIx xs.length xs.length hi - HT.sIx xs.length 0 lo)
abbrev PO' := Sto → (Option Int → Sto → Prop) → Prop
def SimO (K : PySem.W.Frag) (t : TO) (p : PO') : Prop := ∀ (M : List Addr) (Z : Addr → Prop) (H0 : Hp) (F : Addr → Prop) (ns : Nat → List Addr) (H : Hp) (σ : L2.St) (ρ : Sto) (P : Option Int → Sto → Prop) (Q : Option Int → Hp → Prop),
  SR K M Z H0 F ns H σ ρ → p ρ P → (∀ o H' ns' ρ', SR K M Z H0 F ns' H' σ ρ' → Ext F H H' → Dom ρ ρ' → P o ρ' → Q o H') → t σ H Q
def pNoPart : PO' := fun ρ P => P none ρ
theorem simO_none {K : PySem.W.Frag} : SimO K tNoPart pNoPart := fun M Z H0 F ns H σ ρ P Q S h k => k _ H ns ρ S (.refl H) (.refl ρ) h
def pPart (p : PX) : PO' := fun ρ P => p ρ fun x ρ1 => match res ρ1 x with
  | some (.int i) => P (some i) ρ1
  | _ => False
theorem simO_some {K : PySem.W.Frag} {t : TE} {p : PX} (h : Sim K t p) : SimO K (tPart t) (pPart p) := fun M Z H0 F ns H σ ρ P Q S hp k => by
  refine h M Z H0 F ns H σ ρ _ _ S hp fun x v H1 ns1 ρ1 S1 e1 d1 vx q => ?_
  split at q
  · rename_i i hx
    exact ⟨i, vx.intV S1 hx, k _ H1 ns1 ρ1 S1 e1 d1 q⟩
  · exact q.elim
/-- a[lo:hi]: of a tuple not the whole -/
def kSl (x : Val) (lo hi : Option Int) (ρ : Sto) (P : Val → Sto → Prop) : Prop := match res ρ x with
  | some (.lst a) => P (.f (resF ρ x) (cut a lo hi)) ρ
  | some (.lsr a) => P (.f (resF ρ x) (cut a lo hi)) ρ
  | some (.tup a) => P (.v (resF ρ x) (.tup (cut a lo hi))) ρ
  | some (.str a) => a.length ≤ sizeLine ∧ P (.v true (.str (cut a lo hi))) ρ
  | _ => False
def pSl (p : PX) (pl ph : PO') : PX := fun ρ P => p ρ fun x ρ1 => pl ρ1 fun l ρ2 => ph ρ2 fun h ρ3 => kSl x.dn l h ρ3 P
end Qq

namespace Qq
open PySem PySem.Spec PyProof.Rows L2
section
variable {K : PySem.W.Frag} {M : List Addr} {Z : Addr → Prop} {H0 H H' : Hp} {F G : Addr → Prop} {ns : Nat → List Addr} {σ : L2.St} {ρ : Sto}

/-- a value stays while its objects are locked -/
theorem VOk.hold {v : V} {x : Val} (vx : VOk K Z H0 F ns H σ ρ v x.dn) : ∃ G : Addr → Prop, (∀ i a, Own ρ ns i a → ¬ G a) ∧ (∀ b, G b → ∃ o, H b = some o) ∧
    ∀ (F' : Addr → Prop) ns2 H2 ρ2, (∀ b, G b → F' b) → SR K M Z H0 F' ns2 H2 σ ρ2 → Ext F' H H2 → Dom ρ ρ2 → VOk K Z H0 F ns2 H2 σ ρ2 v x.dn := by
  have go : ∀ {fr : Bool} {d : D}, VOk K Z H0 F ns H σ ρ v (.v fr d) → ∃ G : Addr → Prop, (∀ i a, Own ρ ns i a → ¬ G a) ∧ (∀ b, G b → ∃ o, H b = some o) ∧
    ∀ (F' : Addr → Prop) ns2 H2 ρ2, (∀ b, G b → F' b) → SR K M Z H0 F' ns2 H2 σ ρ2 → Ext F' H H2 → Dom ρ ρ2 → VOk K Z H0 F ns2 H2 σ ρ2 v (.v fr d) := fun {fr d} vx => by
    cases vx with
    | @v _ _ _ ms r f o y =>
    exact ⟨fun b => b ∈ ms, fun i a ow => o i a ow, fun b hb => let ⟨o, e, _⟩ := r.dom b hb; ⟨o, e⟩, fun F' ns2 H2 ρ2 g S2 e2 d2 => .v (r.frame e2 fun b hb => g b hb) f (fun i a ow hm => S2.frz i a ow (g a hm)) y⟩
  cases x with
  | v fr d => exact go vx
  | f fr ds => exact go vx
  | s i =>
    cases vx with
    | @s _ _ c h1 h2 =>
    refine ⟨fun _ => False, fun _ _ _ h => h, fun _ h => h.elim, fun F' ns2 H2 ρ2 _ S2 e2 d2 => ?_⟩
    obtain ⟨c', e'⟩ := d2 i c h1
    exact .s e' h2

/-! ### slices -/
def rSl (K : PySem.W.Frag) : V → Option Int → Option Int → Hp → VK → Prop := fun x lo hi H Q => rSlL K x lo hi H Q ∨ rSlA K x lo hi H Q ∨ rSlS x lo hi H Q
theorem sl_any {X : Cx} : SlR X (rSl X.K) := sl_list.or (sl_tupA.or sl_str)
theorem cut_rep {H0 : Hp} {fr : Bool} {vs : List V} {ds : List D} {tl : List Addr} (I : Items K Z H0 H ns ρ fr vs ds tl) (lo hi : Option Int) : ∃ ul, Items K Z H0 H ns ρ fr (cutV vs lo hi) (cut ds lo hi) ul := by
  obtain ⟨m1, r1, h1⟩ := I.rep.drop (HT.sIx ds.length 0 lo)
  obtain ⟨m2, r2, h2⟩ := r1.take (HT.sIx ds.length ds.length hi - HT.sIx ds.length 0 lo)
  refine ⟨m2, ?_⟩
  have e : cutV vs lo hi = (vs.drop (HT.sIx ds.length 0 lo)).take (HT.sIx ds.length ds.length hi - HT.sIx ds.length 0 lo) := by
    unfold cutV; rw [I.rep.length]
  rw [e]
  exact I.sub r2 fun b hb => h1 b (h2 b hb)
theorem cut_whole {α : Type} {xs : List α} {lo hi : Option Int} (h : HT.sIx xs.length 0 lo = 0 ∧ HT.sIx xs.length xs.length hi = xs.length) : cut xs lo hi = xs := by
  unfold cut
  rw [h.1, h.2]
  simp
theorem sim_sl {t : TE} {p : PX} {tl th : TO} {pl ph : PO'} (h : Sim K t p) (hl : SimO K tl pl) (hh : SimO K th ph) : Sim K (tSl (rSl K) t tl th) (pSl p pl ph) := by
  intro M Z H0 F ns H σ ρ P Q S hp k
  refine h M Z H0 F ns H σ ρ _ _ S hp fun x v H1 ns1 ρ1 S1 e1 d1 vx q => ?_
  obtain ⟨G, g, gd, hold⟩ := vx.dn.hold (M := M)
  refine hl M Z H0 _ ns1 H1 σ ρ1 _ _ (S1.more g gd) q fun lo H2 ns2 ρ2 S2 e2 d2 q => ?_
  refine hh M Z H0 _ ns2 H2 σ ρ2 _ _ S2 q fun hi H3 ns3 ρ3 S3 e3 d3 q => ?_
  have vx3 := (hold _ ns3 H3 ρ3 (fun b h => .inr h) S3 (e2.trans e3) (d2.trans d3))
  have S3' : SR K M Z H0 F ns3 H3 σ ρ3 := S3.weak fun b h => .inl h
  have ee : Ext F H H3 := e1.trans ((e2.trans e3).weak fun b h => .inl h)
  have dd : Dom ρ ρ3 := d1.trans (d2.trans d3)
  unfold kSl at q
  split at q
  · rename_i a hx
    obtain ⟨p1, vs, tl, rfl, h1, I1⟩ := vx3.seqL S3' (.inl hx)
    obtain ⟨ul, I2⟩ := cut_rep I1 lo hi
    exact .inl ⟨_, _, rfl, h1, fun p hp => k _ _ _ ns3 ρ3 (S3'.grow (same_upd hp)) (ee.trans (.same (same_upd hp))) dd (VOk.newL S3' hp I2) q⟩
  · rename_i a hx
    obtain ⟨p1, vs, tl, rfl, h1, I1⟩ := vx3.seqL S3' (.inr hx)
    obtain ⟨ul, I2⟩ := cut_rep I1 lo hi
    exact .inl ⟨_, _, rfl, h1, fun p hp => k _ _ _ ns3 ρ3 (S3'.grow (same_upd hp)) (ee.trans (.same (same_upd hp))) dd (VOk.newL S3' hp I2) q⟩
  · rename_i a hx
    obtain ⟨p1, vs, tl, rfl, h1, I1⟩ := vx3.tup S3' hx
    obtain ⟨ul, I2⟩ := cut_rep I1 lo hi
    refine .inr (.inl ⟨_, _, rfl, h1, fun hw => ?_, fun _ p hp => k _ _ _ ns3 ρ3 (S3'.grow (same_upd hp)) (ee.trans (.same (same_upd hp))) dd (VOk.newT S3' hp I2) q⟩)
    rw [cut_whole (by rw [← I1.rep.length]; exact hw)] at q
    exact k _ _ H3 ns3 ρ3 S3' ee dd (.v (.tup h1 I1.rep) I1.fre I1.own I1.hid) q
  · rename_i a hx
    obtain ⟨z, rfl, e⟩ := vx3.strV S3' hx
    refine .inr (.inr ⟨_, rfl, by rw [str_len e]; exact q.1, ?_⟩)
    refine k _ _ H3 ns3 ρ3 S3' ee dd (.str ?_) q.2
    unfold cutS cut
    rw [e, str_len e]
  · exact q.elim

/-! ### arguments -/
abbrev PAs := Sto → (List Val → Sto → Prop) → Prop
def SimA (K : PySem.W.Frag) (t : TA) (p : PAs) : Prop := ∀ (M : List Addr) (Z : Addr → Prop) (H0 : Hp) (F : Addr → Prop) (ns : Nat → List Addr) (H : Hp) (σ : L2.St) (ρ : Sto) (P : List Val → Sto → Prop) (Q : List V → Hp → Prop),
  SR K M Z H0 F ns H σ ρ → p ρ P → (∀ xs vs H' ns' ρ', SR K M Z H0 F ns' H' σ ρ' → Ext F H H' → Dom ρ ρ' → Paired (VOk K Z H0 F ns' H' σ ρ') vs xs → P xs ρ' → Q vs H') → t σ H Q
def pNil : PAs := fun ρ P => P [] ρ
def pOne (p : PX) : PAs := fun ρ P => p ρ fun x ρ1 => P [x] ρ1
def pCons (p : PX) (r : PAs) : PAs := fun ρ P => p ρ fun x ρ1 => r ρ1 fun xs ρ2 => P (x.dn :: xs) ρ2
theorem simA_nil : SimA K tNil pNil := fun M Z H0 F ns H σ ρ P Q S h k => k _ _ H ns ρ S (.refl H) (.refl ρ) .nil h
theorem simA_one {t : TE} {p : PX} (h : Sim K t p) : SimA K (tCons t tNil) (pOne p) := fun M Z H0 F ns H σ ρ P Q S hp k =>
  h M Z H0 F ns H σ ρ _ _ S hp fun x v H1 ns1 ρ1 S1 e1 d1 vx q => k _ _ H1 ns1 ρ1 S1 e1 d1 (.cons vx .nil) q
theorem simA_cons {t : TE} {p : PX} {tr : TA} {pr : PAs} (h : Sim K t p) (hr : SimA K tr pr) : SimA K (tCons t tr) (pCons p pr) := fun M Z H0 F ns H σ ρ P Q S hp k => by
  refine h M Z H0 F ns H σ ρ _ _ S hp fun x v H1 ns1 ρ1 S1 e1 d1 vx q => ?_
  obtain ⟨G, g, gd, hold⟩ := vx.dn.hold (M := M)
  refine hr M Z H0 _ ns1 H1 σ ρ1 _ _ (S1.more g gd) q fun xs vs H2 ns2 ρ2 S2 e2 d2 vxs q => ?_
  exact k _ _ H2 ns2 ρ2 (S2.weak fun b h => .inl h) (e1.trans (e2.weak fun b h => .inl h)) (d1.trans d2) (.cons (hold _ ns2 H2 ρ2 (fun b h => .inr h) S2 e2 d2) (L2.Paired.mapP vxs fun _ _ z => z.weak fun b h => .inl h)) q

/-! ### calls of what is built in -/
abbrev KC := List Val → Sto → (Val → Sto → Prop) → Prop
def CallSim (K : PySem.W.Frag) (r : List V → Hp → VK → Prop) (k : KC) : Prop := ∀ (M : List Addr) (Z : Addr → Prop) (H0 : Hp) (F : Addr → Prop) (ns : Nat → List Addr) (H : Hp) (σ : L2.St) (ρ : Sto) (P : Val → Sto → Prop) (Q : VK) (xs : List Val) (vs : List V),
  SR K M Z H0 F ns H σ ρ → Paired (VOk K Z H0 F ns H σ ρ) vs xs → k xs ρ P → (∀ x v H' ns' ρ', SR K M Z H0 F ns' H' σ ρ' → Ext F H H' → Dom ρ ρ' → VOk K Z H0 F ns' H' σ ρ' v x → P x ρ' → Q v H') → r vs H Q
def pCB (k : KC) (p : PAs) : PX := fun ρ P => p ρ fun xs ρ1 => k xs ρ1 P
theorem sim_cb {r : List V → Hp → VK → Prop} {k : KC} {t : TA} {p : PAs} (hr : CallSim K r k) (h : SimA K t p) : Sim K (tCB r t) (pCB k p) := fun M Z H0 F ns H σ ρ P Q S hp kk =>
  h M Z H0 F ns H σ ρ _ _ S hp fun xs vs H1 ns1 ρ1 S1 e1 d1 vxs q =>
    hr M Z H0 F ns1 H1 σ ρ1 P Q xs vs S1 vxs q fun x v H2 ns2 ρ2 S2 e2 d2 vx p => kk x v H2 ns2 ρ2 S2 (e1.trans e2) (d1.trans d2) vx p
/-- len -/
def kLen : KC := fun xs ρ P => match xs with
  | [x] => match res ρ x with
    | some (.str a) => a.length ≤ sizeLine ∧ P (.v true (.int (a.length : Int))) ρ
    | some (.lst a) => P (.v true (.int (a.length : Int))) ρ
    | some (.lsr a) => P (.v true (.int (a.length : Int))) ρ
    | some (.tup a) => P (.v true (.int (a.length : Int))) ρ
    | _ => False
  | _ => False
theorem sim_len : CallSim K (fun xs H Q => ∃ x n, xs = [x] ∧ LenV K x H n ∧ Q (.int n) H) kLen := by
  intro M Z H0 F ns H σ ρ P Q xs vs S vxs q k
  unfold kLen at q
  split at q
  · rename_i x
    cases vxs with
    | cons vx t =>
    cases t
    split at q
    · rename_i a hx
      obtain ⟨z, rfl, e⟩ := vx.strV S hx
      exact ⟨_, _, rfl, ⟨by rw [str_len e]; exact q.1, str_len e ▸ rfl⟩, k _ _ H ns ρ S (.refl H) (.refl ρ) (.int _) q.2⟩
    · rename_i a hx
      obtain ⟨p1, vs, tl, rfl, h1, I1⟩ := vx.seqL S (.inl hx)
      exact ⟨_, _, rfl, .inl ⟨_, h1, I1.rep.length ▸ rfl⟩, k _ _ H ns ρ S (.refl H) (.refl ρ) (.int _) q⟩
    · rename_i a hx
      obtain ⟨p1, vs, tl, rfl, h1, I1⟩ := vx.seqL S (.inr hx)
      exact ⟨_, _, rfl, .inl ⟨_, h1, I1.rep.length ▸ rfl⟩, k _ _ H ns ρ S (.refl H) (.refl ρ) (.int _) q⟩
    · rename_i a hx
      obtain ⟨p1, vs, tl, rfl, h1, I1⟩ := vx.tup S hx
      exact ⟨_, _, rfl, .inr ⟨_, h1, I1.rep.length ▸ rfl⟩, k _ _ H ns ρ S (.refl H) (.refl ρ) (.int _) q⟩
    · exact q.elim
  · exact q.elim
/-- list(x), tuple(x) -/
def kList : KC := fun xs ρ P => match xs with
  | [x] => match res ρ x with
    | some (.lst a) => P (.f (resF ρ x) a) ρ
    | some (.lsr a) => P (.f (resF ρ x) a) ρ
    | some (.tup a) => P (.f (resF ρ x) a) ρ
    | _ => False
  | _ => False
theorem sim_list : CallSim K (fun xs H Q => ∃ p ys, xs = [.ref p] ∧ (SqL K H p ys ∨ SqT K H p ys) ∧ ∀ l, H l = none → Q (.ref l) (upd H l (.lst ys))) kList := by
  intro M Z H0 F ns H σ ρ P Q xs vs S vxs q k
  unfold kList at q
  split at q
  · rename_i x
    cases vxs with
    | cons vx t =>
    cases t
    split at q
    · rename_i a hx
      obtain ⟨p1, vs, tl, rfl, h1, I1⟩ := vx.seqL S (.inl hx)
      exact ⟨_, _, rfl, .inl h1, fun p hp => k _ _ _ ns ρ (S.grow (same_upd hp)) (.same (same_upd hp)) (.refl ρ) (VOk.newL S hp I1) q⟩
    · rename_i a hx
      obtain ⟨p1, vs, tl, rfl, h1, I1⟩ := vx.seqL S (.inr hx)
      exact ⟨_, _, rfl, .inl h1, fun p hp => k _ _ _ ns ρ (S.grow (same_upd hp)) (.same (same_upd hp)) (.refl ρ) (VOk.newL S hp I1) q⟩
    · rename_i a hx
      obtain ⟨p1, vs, tl, rfl, h1, I1⟩ := vx.tup S hx
      exact ⟨_, _, rfl, .inr h1, fun p hp => k _ _ _ ns ρ (S.grow (same_upd hp)) (.same (same_upd hp)) (.refl ρ) (VOk.newL S hp I1) q⟩
    · exact q.elim
  · exact q.elim
def kTuple : KC := fun xs ρ P => match xs with
  | [x] => match res ρ x with
    | some (.lst a) => P (.v (resF ρ x) (.tup a)) ρ
    | some (.lsr a) => P (.v (resF ρ x) (.tup a)) ρ
    | some (.tup a) => P (.v (resF ρ x) (.tup a)) ρ
    | _ => False
  | _ => False
theorem sim_tuple : CallSim K (fun xs H Q => ∃ p ys, xs = [.ref p] ∧ ((SqL K H p ys ∧ ∀ l, H l = none → Q (.ref l) (upd H l (.tup ys))) ∨ (SqT K H p ys ∧ Q (.ref p) H))) kTuple := by
  intro M Z H0 F ns H σ ρ P Q xs vs S vxs q k
  unfold kTuple at q
  split at q
  · rename_i x
    cases vxs with
    | cons vx t =>
    cases t
    split at q
    · rename_i a hx
      obtain ⟨p1, vs, tl, rfl, h1, I1⟩ := vx.seqL S (.inl hx)
      exact ⟨_, _, rfl, .inl ⟨h1, fun p hp => k _ _ _ ns ρ (S.grow (same_upd hp)) (.same (same_upd hp)) (.refl ρ) (VOk.newT S hp I1) q⟩⟩
    · rename_i a hx
      obtain ⟨p1, vs, tl, rfl, h1, I1⟩ := vx.seqL S (.inr hx)
      exact ⟨_, _, rfl, .inl ⟨h1, fun p hp => k _ _ _ ns ρ (S.grow (same_upd hp)) (.same (same_upd hp)) (.refl ρ) (VOk.newT S hp I1) q⟩⟩
    · rename_i a hx
      obtain ⟨p1, vs, tl, rfl, h1, I1⟩ := vx.tup S hx
      exact ⟨_, _, rfl, .inr ⟨h1, k _ _ H ns ρ S (.refl H) (.refl ρ) (.v (.tup h1 I1.rep) I1.fre I1.own I1.hid) q⟩⟩
    · exact q.elim
  · exact q.elim
/-- pure calls: data in, data without changeable objects out -/
def CallPure (K : PySem.W.Frag) (r : List V → Hp → VK → Prop) (g : List D → (D → Prop) → Prop) : Prop := ∀ (H : Hp) (vs : List V) (ds : List D) (C : D → Prop) (Q : VK), Paired (fun v d => ∃ ms, Rep K H v d ms) vs ds → g ds C → (∀ w z, Rep K H w z [] → C z → Q w H) → r vs H Q
def resAll (ρ : Sto) : List Val → Option (List D)
  | [] => some []
  | x :: xs => match resT ρ x, resAll ρ xs with
    | some d, some ds => some (d :: ds)
    | _, _ => none
def kCP (g : List D → (D → Prop) → Prop) : KC := fun xs ρ P => match resAll ρ xs with
  | some ds => g ds fun z => P (.v true z) ρ
  | none => False
theorem resAll_rep (S : SR K M Z H0 F ns H σ ρ) : ∀ {xs : List Val} {vs : List V} {ds : List D}, Paired (VOk K Z H0 F ns H σ ρ) vs xs → resAll ρ xs = some ds → Paired (fun v d => ∃ ms, Rep K H v d ms) vs ds
  | [], _, ds, .nil, h => by cases h; exact .nil
  | x :: xs, v :: vs, ds, .cons vx t, h => by
    unfold resAll at h
    split at h
    · rename_i d ds' h1 h2
      cases h
      exact .cons (vx.repT S h1) (resAll_rep S t h2)
    · cases h
theorem callSim_pure {r : List V → Hp → VK → Prop} {g : List D → (D → Prop) → Prop} (h : CallPure K r g) : CallSim K r (kCP g) := by
  intro M Z H0 F ns H σ ρ P Q xs vs S vxs q k
  unfold kCP at q
  split at q
  · rename_i ds e
    exact h H vs ds _ Q (resAll_rep S vxs e) q fun w z rz c => k _ _ H ns ρ S (.refl H) (.refl ρ) (.v rz (fun _ _ h => nomatch h) (fun _ _ _ h => nomatch h) (fun _ h => nomatch h)) c
  · exact q.elim
def gAbs : List D → (D → Prop) → Prop := fun ds P => match ds with
  | [.int i] => P (.int (if i < 0 then -i else i))
  | _ => False
def gMax : List D → (D → Prop) → Prop := fun ds P => match ds with
  | [.int i, .int j] => P (.int (if j > i then j else i))
  | _ => False
def gMin : List D → (D → Prop) → Prop := fun ds P => match ds with
  | [.int i, .int j] => P (.int (if j < i then j else i))
  | _ => False
def gInt : List D → (D → Prop) → Prop := fun ds P => match ds with
  | [.int i] => P (.int i)
  | [.bl b] => P (.int (if b then 1 else 0))
  | _ => False
theorem callPure_abs : CallPure K (fun xs H Q => ∃ i, xs = [.int i] ∧ Q (.int (if i < 0 then -i else i)) H) gAbs := by
  intro H vs ds C Q r g k
  unfold gAbs at g
  split at g
  · cases r with
    | cons a t =>
      cases t
      obtain ⟨ms, a⟩ := a
      cases a
      exact ⟨_, rfl, k _ _ (.int _) g⟩
  · exact g.elim
theorem callPure_max : CallPure K (fun xs H Q => ∃ i j, xs = [.int i, .int j] ∧ Q (.int (if j > i then j else i)) H) gMax := by
  intro H vs ds C Q r g k
  unfold gMax at g
  split at g
  · cases r with
    | cons a t =>
      cases t with
      | cons b t =>
      cases t
      obtain ⟨ms, a⟩ := a
      obtain ⟨ms', b⟩ := b
      cases a; cases b
      exact ⟨_, _, rfl, k _ _ (.int _) g⟩
  · exact g.elim
theorem callPure_min : CallPure K (fun xs H Q => ∃ i j, xs = [.int i, .int j] ∧ Q (.int (if j < i then j else i)) H) gMin := by
  intro H vs ds C Q r g k
  unfold gMin at g
  split at g
  · cases r with
    | cons a t =>
      cases t with
      | cons b t =>
      cases t
      obtain ⟨ms, a⟩ := a
      obtain ⟨ms', b⟩ := b
      cases a; cases b
      exact ⟨_, _, rfl, k _ _ (.int _) g⟩
  · exact g.elim
theorem callPure_int : CallPure K (fun xs H Q => (∃ i, xs = [.int i] ∧ Q (.int i) H) ∨ ∃ k, xs = [.bl k] ∧ Q (.int (if k then 1 else 0)) H) gInt := by
  intro H vs ds C Q r g k
  unfold gInt at g
  split at g
  · cases r with
    | cons a t =>
      cases t
      obtain ⟨ms, a⟩ := a
      cases a
      exact .inl ⟨_, rfl, k _ _ (.int _) g⟩
  · cases r with
    | cons a t =>
      cases t
      obtain ⟨ms, a⟩ := a
      cases a
      exact .inr ⟨_, rfl, k _ _ (.int _) g⟩
  · exact g.elim

/-! ### displays -/
def frAll (ρ : Sto) (xs : List Val) : Bool := xs.all (resF ρ)
/-- a value is put away: an owned list is shared from then on -/
def put (ρ : Sto) : Val → Sto
  | .s i => match ρ[i]? with
    | some (some (.ow _ fr ds)) => ρ.set i (some (.sh fr (.lst ds)))
    | some (some (.tr p d)) => ρ.set i (some (.sh (!p) d))
    | _ => ρ
  | _ => ρ
def putAll (ρ : Sto) : List Val → Sto
  | [] => ρ
  | x :: xs => putAll (put ρ x) xs
end
end Qq

namespace Qq
open PySem PySem.Spec PyProof.Rows L2
section
variable {K : PySem.W.Frag} {M : List Addr} {Z : Addr → Prop} {H0 H H' : Hp} {F G : Addr → Prop} {ns : Nat → List Addr} {σ : L2.St} {ρ : Sto}

theorem get_set_ne {ρ : Sto} {i j : Nat} {x : Option Cel} (h : i ≠ j) : (ρ.set i x)[j]? = ρ[j]? := List.getElem?_set_ne h
theorem get_set_eq {ρ : Sto} {i : Nat} {x : Option Cel} (h : i < ρ.length) : (ρ.set i x)[i]? = some x := List.getElem?_set_self h
theorem Own.set_sh {i j : Nat} {a : Addr} {fr : Bool} {d : D} (h : Own (ρ.set i (some (.sh fr d))) ns j a) : Own ρ ns j a ∧ j ≠ i := by
  by_cases hj : j = i
  · subst hj
    by_cases hl : j < ρ.length
    · exact (h.noSh (get_set_eq hl)).elim
    · obtain ⟨c, e⟩ := h.cell
      rw [List.getElem?_eq_none (by simp; omega)] at e; cases e
  · exact ⟨h.congr (get_set_ne (Ne.symm hj)) rfl, hj⟩
/-- an owned list becomes shared -/
theorem SR.shareC (S : SR K M Z H0 F ns H σ ρ) {i : Nat} {c0 : Cel} (e : ρ[i]? = some (some c0)) : SR K M Z H0 F ns H σ (ρ.set i (some (.sh c0.frs c0.dat))) := by
  have hl : i < ρ.length := (List.getElem?_eq_some_iff.mp e).1
  refine ⟨by simpa using S.len, fun j c hc => ?_, fun j hj => ?_, fun j m a ow hm => S.exc j m a ow.set_sh.1 hm, fun j a ow => S.frz j a ow.set_sh.1, S.ent, S.mls, S.fdm, S.hid, S.zdm⟩
  · by_cases hj : j = i
    · subst hj
      rw [get_set_eq hl] at hc
      cases hc
      obtain ⟨v, e1, r, f⟩ := S.cell e
      exact ⟨v, e1, .sh r f⟩
    · rw [get_set_ne (Ne.symm hj)] at hc
      exact S.cel j c hc
  · by_cases hj' : j = i
    · subst hj'
      exact absurd (get_set_eq hl) (hj _)
    · refine S.emp j fun c hc => hj c ?_
      rw [get_set_ne (Ne.symm hj')]
      exact hc
theorem SR.share (S : SR K M Z H0 F ns H σ ρ) {i : Nat} {k : Option Nat} {fr : Bool} {ds : List D} (e : ρ[i]? = some (some (.ow k fr ds))) : SR K M Z H0 F ns H σ (ρ.set i (some (.sh fr (.lst ds)))) := S.shareC e
theorem put_sr (S : SR K M Z H0 F ns H σ ρ) (x : Val) : SR K M Z H0 F ns H σ (put ρ x) := by
  unfold put
  split
  · split
    · rename_i e
      exact S.share e
    · rename_i e
      exact S.shareC e
    · exact S
  · exact S
theorem put_dom (ρ : Sto) (x : Val) : Dom ρ (put ρ x) := by
  unfold put
  split
  · split
    · rename_i i _ k fr ds e
      intro j c hc
      have hl : i < ρ.length := (List.getElem?_eq_some_iff.mp e).1
      by_cases hj : j = i
      · subst hj; exact ⟨_, get_set_eq hl⟩
      · exact ⟨c, by rw [get_set_ne (Ne.symm hj)]; exact hc⟩
    · rename_i i _ k ds e
      intro j c hc
      have hl : i < ρ.length := (List.getElem?_eq_some_iff.mp e).1
      by_cases hj : j = i
      · subst hj; exact ⟨_, get_set_eq hl⟩
      · exact ⟨c, by rw [get_set_ne (Ne.symm hj)]; exact hc⟩
    · exact .refl ρ
  · exact .refl ρ
theorem put_own {x : Val} {i : Nat} {a : Addr} (h : Own (put ρ x) ns i a) : Own ρ ns i a := by
  unfold put at h
  split at h
  · split at h
    · exact h.set_sh.1
    · exact h.set_sh.1
    · exact h
  · exact h
theorem VOk.move {ρ' : Sto} {v : V} {x : Val} (k : VOk K Z H0 F ns H σ ρ v x) (d : Dom ρ ρ') (o : ∀ i a, Own ρ' ns i a → Own ρ ns i a) : VOk K Z H0 F ns H σ ρ' v x := by
  cases k with
  | v r f ow y => exact .v r f (fun i a h => ow i a (o i a h)) y
  | s h1 h2 =>
    obtain ⟨c', e⟩ := d _ _ h1
    exact .s e h2
  | f h r n f g i ow z y => exact .f h r n f g i (fun j b q => ow j b (o j b q)) z y
theorem putAll_sr : ∀ (xs : List Val) {ρ : Sto}, SR K M Z H0 F ns H σ ρ → SR K M Z H0 F ns H σ (putAll ρ xs)
  | [], _, S => S
  | x :: xs, _, S => putAll_sr xs (put_sr S x)
theorem putAll_dom : ∀ (xs : List Val) (ρ : Sto), Dom ρ (putAll ρ xs)
  | [], ρ => .refl ρ
  | x :: xs, ρ => (put_dom ρ x).trans (putAll_dom xs _)
theorem putAll_own : ∀ (xs : List Val) {ρ : Sto} {i : Nat} {a : Addr}, Own (putAll ρ xs) ns i a → Own ρ ns i a
  | [], _, _, _, h => h
  | x :: xs, _, _, _, h => put_own (putAll_own xs h)
/-- what is put away is no owned list -/
def Away (ρ : Sto) (x : Val) : Prop := ∀ i, x = .s i → ∀ a, ¬ Own ρ ns i a
theorem put_away {x : Val} : Away (ns := ns) (put ρ x) x := by
  intro i e a h
  subst e
  unfold put at h
  simp only at h
  split at h
  · exact h.set_sh.2 rfl
  · exact h.set_sh.2 rfl
  · rename_i hne hne2
    rcases h with ⟨k, fr, ds, e, _⟩ | ⟨p, d, e, _⟩
    · exact hne k fr ds e
    · exact hne2 p d e
theorem putAll_away : ∀ (xs : List Val) {ρ : Sto}, ∀ x ∈ xs, Away (ns := ns) (putAll ρ xs) x
  | y :: ys, ρ, x, hx => by
    rcases List.mem_cons.mp hx with e | h
    · subst e
      exact fun i e a ow => put_away i e a (putAll_own ys ow)
    · exact putAll_away ys x h
/-- a value that is put away, with its objects -/
theorem VOk.anyT (S : SR K M Z H0 F ns H σ ρ) {v : V} {x : Val} {d : D} (k : VOk K Z H0 F ns H σ ρ v x) (aw : Away (ns := ns) ρ x) (h : resT ρ x = some d) :
    ∃ ms, Rep K H v d ms ∧ (resF ρ x = true → ∀ b ∈ ms, H0 b = none) ∧ (∀ i a, Own ρ ns i a → a ∉ ms) ∧ ∀ b ∈ ms, ¬ Z b := by
  have k' := k.dn
  cases x with
  | v fr d' =>
    cases h
    cases k with
    | v r f o y => exact ⟨_, r, f, o, y⟩
  | f fr ds =>
    cases h
    cases k' with
    | v r f o y => exact ⟨_, r, f, o, y⟩
  | s i =>
    cases k with
    | @s _ _ c h1 h2 =>
    obtain ⟨w, e, r, f⟩ := S.cell h1
    rw [h2] at e; cases e
    simp only [resT, h1] at h
    cases h
    refine ⟨_, r, fun q => f (by simpa [resF, h1] using q), fun j a ow hm => ?_, S.hid i⟩
    by_cases hj : j = i
    · subst hj; exact aw j rfl a ow
    · exact S.exc j i a ow (Ne.symm hj) hm
theorem VOk.any (S : SR K M Z H0 F ns H σ ρ) {v : V} {x : Val} {d : D} (k : VOk K Z H0 F ns H σ ρ v x) (aw : Away (ns := ns) ρ x) (h : res ρ x = some d) :
    ∃ ms, Rep K H v d ms ∧ (resF ρ x = true → ∀ b ∈ ms, H0 b = none) ∧ (∀ i a, Own ρ ns i a → a ∉ ms) ∧ ∀ b ∈ ms, ¬ Z b := k.anyT S aw (resT_of h)
theorem vals_items (S : SR K M Z H0 F ns H σ ρ) : ∀ {xs : List Val} {vs : List V} {ds : List D}, Paired (VOk K Z H0 F ns H σ ρ) vs xs → (∀ x ∈ xs, Away (ns := ns) ρ x) → resAll ρ xs = some ds → ∃ tl, Items K Z H0 H ns ρ (frAll ρ xs) vs ds tl
  | [], _, ds, .nil, _, h => by cases h; exact ⟨[], .nil⟩
  | x :: xs, v :: vs, ds, .cons vx t, aw, h => by
    unfold resAll at h
    split at h
    · rename_i d ds' h1 h2
      cases h
      obtain ⟨tl, I⟩ := vals_items S t (fun y hy => aw y (List.mem_cons_of_mem _ hy)) h2
      obtain ⟨ms, r, f, o, y⟩ := vx.anyT S (aw x List.mem_cons_self) h1
      have J : Items K Z H0 H ns ρ (resF ρ x) [v] [d] ms := ⟨RepL.one r, f, o, y⟩
      exact ⟨_, J.append I⟩
    · cases h
def pLst (p : PAs) : PX := fun ρ P => p ρ fun xs ρ1 => match resAll (putAll ρ1 xs) xs with
  | some ds => ds.length ≤ sizeLine ∧ P (.f (frAll (putAll ρ1 xs) xs) ds) (putAll ρ1 xs)
  | none => False
def pTup (p : PAs) : PX := fun ρ P => p ρ fun xs ρ1 => match resAll (putAll ρ1 xs) xs with
  | some ds => ds.length ≤ sizeLine ∧ P (.v (frAll (putAll ρ1 xs) xs) (.tup ds)) (putAll ρ1 xs)
  | none => False
theorem sim_lst {t : TA} {p : PAs} (h : SimA K t p) : Sim K (tLst t) (pLst p) := fun M Z H0 F ns H σ ρ P Q S hp kk => by
  refine h M Z H0 F ns H σ ρ _ _ S hp fun xs vs H1 ns1 ρ1 S1 e1 d1 vxs q => ?_
  split at q
  · rename_i ds e
    have S2 := putAll_sr xs S1
    obtain ⟨tl, I⟩ := vals_items S2 (L2.Paired.mapP vxs fun _ _ z => z.move (putAll_dom xs ρ1) fun _ _ => putAll_own xs) (putAll_away xs) e
    refine ⟨by rw [I.rep.length]; exact q.1, fun p hp => ?_⟩
    exact kk _ _ _ ns1 _ (S2.grow (same_upd hp)) (e1.trans (.same (same_upd hp))) (d1.trans (putAll_dom xs ρ1)) (VOk.newL S2 hp I) q.2
  · exact q.elim
theorem sim_tup {t : TA} {p : PAs} (h : SimA K t p) : Sim K (tTup t) (pTup p) := fun M Z H0 F ns H σ ρ P Q S hp kk => by
  refine h M Z H0 F ns H σ ρ _ _ S hp fun xs vs H1 ns1 ρ1 S1 e1 d1 vxs q => ?_
  split at q
  · rename_i ds e
    have S2 := putAll_sr xs S1
    obtain ⟨tl, I⟩ := vals_items S2 (L2.Paired.mapP vxs fun _ _ z => z.move (putAll_dom xs ρ1) fun _ _ => putAll_own xs) (putAll_away xs) e
    refine ⟨by rw [I.rep.length]; exact q.1, fun p hp => ?_⟩
    exact kk _ _ _ ns1 _ (S2.grow (same_upd hp)) (e1.trans (.same (same_upd hp))) (d1.trans (putAll_dom xs ρ1)) (VOk.newT S2 hp I) q.2
  · exact q.elim

/-! ### one-place operations -/
def pNeg (p : PX) : PX := fun ρ P => p ρ fun x ρ1 => match res ρ1 x with
  | some (.int i) => P (.v true (.int (-i))) ρ1
  | _ => False
theorem sim_neg {t : TE} {p : PX} (h : Sim K t p) : Sim K (tUn (rU fun i => .int (-i)) t) (pNeg p) := fun M Z H0 F ns H σ ρ P Q S hp k => by
  refine h M Z H0 F ns H σ ρ _ _ S hp fun x v H1 ns1 ρ1 S1 e1 d1 vx q => ?_
  split at q
  · rename_i i hx
    exact ⟨i, vx.intV S1 hx, k _ _ H1 ns1 ρ1 S1 e1 d1 (.int _) q⟩
  · exact q.elim

/-! ### tests -/
abbrev PT' := Sto → (Bool → Sto → Prop) → Prop
def SimT (K : PySem.W.Frag) (t : TT) (p : PT') : Prop := ∀ (M : List Addr) (Z : Addr → Prop) (H0 : Hp) (F : Addr → Prop) (ns : Nat → List Addr) (H : Hp) (σ : L2.St) (ρ : Sto) (P : Bool → Sto → Prop) (Q : Bool → Hp → Prop),
  SR K M Z H0 F ns H σ ρ → p ρ P → (∀ b H' ns' ρ', SR K M Z H0 F ns' H' σ ρ' → Ext F H H' → Dom ρ ρ' → P b ρ' → Q b H') → t σ H Q
/-- an expression's truth -/
def truth : D → Option Bool
  | .non => some false
  | .bl b => some b
  | .int i => some (i != 0)
  | .str x => some (!x.isEmpty)
  | .lst x => some (!x.isEmpty)
  | .lsr x => some (!x.isEmpty)
  | .tup x => some (!x.isEmpty)
  | _ => none
def szOk : D → Prop
  | .str x => x.length ≤ sizeLine
  | _ => True
def pTru (p : PX) : PT' := fun ρ P => p ρ fun x ρ1 => match res ρ1 x with
  | some d => match truth d with
    | some b => szOk d ∧ P b ρ1
    | none => False
  | none => False
theorem isEmpty_len {α β : Type} {a : List α} {b : List β} (h : a.length = b.length) : a.isEmpty = b.isEmpty := by
  cases a <;> cases b <;> first | rfl | simp at h
theorem Rep.truth {v : V} {d : D} {ms : List Addr} (r : Rep K H v d ms) {b : Bool} (h : truth d = some b) (z : szOk d) : TruV K v H b := by
  cases r with
  | non => cases h; rfl
  | bl b => cases h; rfl
  | int i => cases h; rfl
  | ty _ => cases h
  | cls _ => cases h
  | @str y x e =>
    cases h
    refine ⟨by rw [str_len e]; exact z, ?_⟩
    rw [str_len e]
    cases x with
    | nil => rfl
    | cons a t => simp; omega
  | tup h1 r => cases h; exact .inr (.inl ⟨_, h1, by rw [isEmpty_len r.length]⟩)
  | lst h1 r => cases h; exact .inl ⟨_, .of h1, by rw [isEmpty_len r.length]⟩
  | lstR h1 r => cases h; exact .inl ⟨_, h1 H fun _ _ q => q, by rw [isEmpty_len r.length]⟩
  | obj _ _ _ _ => cases h
  | dic _ _ _ => cases h
  | exn0 _ => cases h
  | exn1 _ _ _ _ => cases h
theorem simT_tru {t : TE} {p : PX} (h : Sim K t p) : SimT K (fun σ H Q => t σ H fun x H' => ∃ k, TruV K x H' k ∧ Q k H') (pTru p) := fun M Z H0 F ns H σ ρ P Q S hp k => by
  refine h M Z H0 F ns H σ ρ _ _ S hp fun x v H1 ns1 ρ1 S1 e1 d1 vx q => ?_
  split at q
  · rename_i d hx
    split at q
    · rename_i b hb
      obtain ⟨ms, r⟩ := vx.rep S1 hx
      exact ⟨b, r.truth hb q.1, k _ H1 ns1 ρ1 S1 e1 d1 q.2⟩
    · exact q.elim
  · exact q.elim
/-- a comparison as a test: its answer is a truth -/
def pTst (p : PX) : PT' := fun ρ P => p ρ fun x ρ1 => match x with
  | .v _ (.bl b) => P b ρ1
  | _ => False
theorem simT_tst {t : TE} {p : PX} (h : Sim K t p) : SimT K (tTest t) (pTst p) := fun M Z H0 F ns H σ ρ P Q S hp k => by
  refine h M Z H0 F ns H σ ρ _ _ S hp fun x v H1 ns1 ρ1 S1 e1 d1 vx q => ?_
  split at q
  · rename_i fr b
    exact ⟨b, vx.blV S1 rfl, k _ H1 ns1 ρ1 S1 e1 d1 q⟩
  · exact q.elim
def pNotT (p : PT') : PT' := fun ρ P => p ρ fun b ρ1 => P (!b) ρ1
theorem simT_not {t : TT} {p : PT'} (h : SimT K t p) : SimT K (tNot t) (pNotT p) := fun M Z H0 F ns H σ ρ P Q S hp k =>
  h M Z H0 F ns H σ ρ _ _ S hp fun b H1 ns1 ρ1 S1 e1 d1 q => k _ H1 ns1 ρ1 S1 e1 d1 q
def pAndT (p q : PT') : PT' := fun ρ P => p ρ fun b ρ1 => if b = true then q ρ1 P else P false ρ1
def pOrT (p q : PT') : PT' := fun ρ P => p ρ fun b ρ1 => if b = true then P true ρ1 else q ρ1 P
theorem simT_and {t u : TT} {p q : PT'} (h : SimT K t p) (h' : SimT K u q) : SimT K (tAnd t u) (pAndT p q) := fun M Z H0 F ns H σ ρ P Q S hp k =>
  h M Z H0 F ns H σ ρ _ _ S hp fun b H1 ns1 ρ1 S1 e1 d1 z => by
    cases b with
    | true => exact iteT (h' M Z H0 F ns1 H1 σ ρ1 _ _ S1 (by simpa using z) fun b H2 ns2 ρ2 S2 e2 d2 y => k _ H2 ns2 ρ2 S2 (e1.trans e2) (d1.trans d2) y)
    | false => exact iteF (k _ H1 ns1 ρ1 S1 e1 d1 (by simpa using z))
theorem simT_or {t u : TT} {p q : PT'} (h : SimT K t p) (h' : SimT K u q) : SimT K (tOr t u) (pOrT p q) := fun M Z H0 F ns H σ ρ P Q S hp k =>
  h M Z H0 F ns H σ ρ _ _ S hp fun b H1 ns1 ρ1 S1 e1 d1 z => by
    cases b with
    | false => exact iteF (h' M Z H0 F ns1 H1 σ ρ1 _ _ S1 (by simpa using z) fun b H2 ns2 ρ2 S2 e2 d2 y => k _ H2 ns2 ρ2 S2 (e1.trans e2) (d1.trans d2) y)
    | true => exact iteT (k _ H1 ns1 ρ1 S1 e1 d1 (by simpa using z))
/-- and, or, not as values: all but the last truths -/
def pAndV (p q : PX) : PX := fun ρ P => p ρ fun x ρ1 => match x with
  | .v _ (.bl b) => if b = true then q ρ1 P else P (.v true (.bl false)) ρ1
  | _ => False
def pOrV (p q : PX) : PX := fun ρ P => p ρ fun x ρ1 => match x with
  | .v _ (.bl b) => if b = true then P (.v true (.bl true)) ρ1 else q ρ1 P
  | _ => False
def pNotV (p : PX) : PX := fun ρ P => p ρ fun x ρ1 => match x with
  | .v _ (.bl b) => P (.v true (.bl (!b))) ρ1
  | _ => False
theorem sim_andV {t u : TE} {p q : PX} (h : Sim K t p) (h' : Sim K u q) : Sim K (tAndV t u) (pAndV p q) := fun M Z H0 F ns H σ ρ P Q S hp k => by
  refine h M Z H0 F ns H σ ρ _ _ S hp fun x v H1 ns1 ρ1 S1 e1 d1 vx z => ?_
  split at z
  · rename_i fr b
    refine ⟨b, vx.blV S1 rfl, ?_⟩
    cases b with
    | true => exact iteT (h' M Z H0 F ns1 H1 σ ρ1 _ _ S1 (by simpa using z) fun y w H2 ns2 ρ2 S2 e2 d2 vy c => k _ _ H2 ns2 ρ2 S2 (e1.trans e2) (d1.trans d2) vy c)
    | false => exact iteF (k _ _ H1 ns1 ρ1 S1 e1 d1 (.bl _) (by simpa using z))
  · exact z.elim
theorem sim_orV {t u : TE} {p q : PX} (h : Sim K t p) (h' : Sim K u q) : Sim K (tOrV t u) (pOrV p q) := fun M Z H0 F ns H σ ρ P Q S hp k => by
  refine h M Z H0 F ns H σ ρ _ _ S hp fun x v H1 ns1 ρ1 S1 e1 d1 vx z => ?_
  split at z
  · rename_i fr b
    refine ⟨b, vx.blV S1 rfl, ?_⟩
    cases b with
    | false => exact iteF (h' M Z H0 F ns1 H1 σ ρ1 _ _ S1 (by simpa using z) fun y w H2 ns2 ρ2 S2 e2 d2 vy c => k _ _ H2 ns2 ρ2 S2 (e1.trans e2) (d1.trans d2) vy c)
    | true => exact iteT (k _ _ H1 ns1 ρ1 S1 e1 d1 (.bl _) (by simpa using z))
  · exact z.elim
theorem sim_notV {t : TE} {p : PX} (h : Sim K t p) : Sim K (tNotV t) (pNotV p) := fun M Z H0 F ns H σ ρ P Q S hp k => by
  refine h M Z H0 F ns H σ ρ _ _ S hp fun x v H1 ns1 ρ1 S1 e1 d1 vx z => ?_
  split at z
  · rename_i fr b
    exact ⟨b, vx.blV S1 rfl, k _ _ H1 ns1 ρ1 S1 e1 d1 (.bl _) z⟩
  · exact z.elim
def pIf (c : PT') (p q : PX) : PX := fun ρ P => c ρ fun b ρ1 => if b = true then p ρ1 P else q ρ1 P
theorem sim_if {c : TT} {t u : TE} {pc : PT'} {p q : PX} (hc : SimT K c pc) (h : Sim K t p) (h' : Sim K u q) : Sim K (tIf c t u) (pIf pc p q) := fun M Z H0 F ns H σ ρ P Q S hp k => by
  refine hc M Z H0 F ns H σ ρ _ _ S hp fun b H1 ns1 ρ1 S1 e1 d1 z => ?_
  cases b with
  | true => exact iteT (h M Z H0 F ns1 H1 σ ρ1 _ _ S1 (by simpa using z) fun y w H2 ns2 ρ2 S2 e2 d2 vy c => k _ _ H2 ns2 ρ2 S2 (e1.trans e2) (d1.trans d2) vy c)
  | false => exact iteF (h' M Z H0 F ns1 H1 σ ρ1 _ _ S1 (by simpa using z) fun y w H2 ns2 ρ2 S2 e2 d2 vy c => k _ _ H2 ns2 ρ2 S2 (e1.trans e2) (d1.trans d2) vy c)
end
end Qq

namespace Qq
open PySem PySem.Spec PyProof.Rows L2
section
variable {K : PySem.W.Frag} {M : List Addr} {Z : Addr → Prop} {H0 H H' : Hp} {F G : Addr → Prop} {ns : Nat → List Addr} {σ : L2.St} {ρ : Sto}

/-! ### storing -/
def sto (ρ : Sto) (i : Nat) : Val → Sto
  | .v fr d => ρ.set i (some (.sh fr d))
  | .f fr ds => ρ.set i (some (.ow none fr ds))
  | .s j => match (put ρ (.s j))[j]? with
    | some (some c) => (put ρ (.s j)).set i (some (.sh c.frs c.dat))
    | _ => ρ
theorem Own.set_ne {i j : Nat} {a : Addr} {c : Cel} (h : Own (ρ.set i (some c)) ns j a) (hj : j ≠ i) : Own ρ ns j a := h.congr (get_set_ne (Ne.symm hj)) rfl
theorem Own.set_ne2 {i j : Nat} {a : Addr} {c : Option Cel} {us : List Addr} (h : Own (ρ.set i c) (fun j => if j = i then us else ns j) j a) (hj : j ≠ i) : Own ρ ns j a := h.congr (get_set_ne (Ne.symm hj)) (if_neg hj)
/-- a slot takes shared data -/
theorem SR.setSh (S : SR K M Z H0 F ns H σ ρ) {i : Nat} (hi : i < ρ.length) {v : V} {fr : Bool} {d : D} {ms : List Addr} (r : Rep K H v d ms) (f : fr = true → ∀ b ∈ ms, H0 b = none) (o : ∀ j a, Own ρ ns j a → a ∉ ms) (y : ∀ b ∈ ms, ¬ Z b) :
    SR K M Z H0 F (fun j => if j = i then ms else ns j) H (σ.set i (some v)) (ρ.set i (some (.sh fr d))) := by
  have ownE : ∀ {j a}, Own (ρ.set i (some (.sh fr d))) (fun j => if j = i then ms else ns j) j a → Own ρ ns j a ∧ j ≠ i := fun {j a} h => by
    have hj := h.set_sh.2
    exact ⟨h.set_ne2 hj, hj⟩
  refine ⟨by simpa using S.len, fun j c hc => ?_, fun j hj => ?_, fun j m a ow hm => ?_, fun j a ow => S.frz j a (ownE ow).1, S.ent, S.mls, S.fdm, fun j b hb => ?_, S.zdm⟩
  · by_cases hj : j = i
    · subst hj
      rw [get_set_eq hi] at hc
      cases hc
      refine ⟨v, by rw [List.getElem?_set_self (by rw [S.len]; exact hi)], ?_⟩
      simp only [if_pos]
      exact .sh r f
    · rw [get_set_ne (Ne.symm hj)] at hc
      obtain ⟨w, e1, ok⟩ := S.cel j c hc
      refine ⟨w, by rw [List.getElem?_set_ne (Ne.symm hj)]; exact e1, ?_⟩
      simp only [if_neg hj]
      exact ok
  · by_cases hj' : j = i
    · subst hj'
      exact absurd (get_set_eq hi) (hj _)
    · simp only [if_neg hj']
      refine S.emp j fun c hc => hj c ?_
      rw [get_set_ne (Ne.symm hj')]
      exact hc
  · obtain ⟨ow', hj⟩ := ownE ow
    by_cases hm' : m = i
    · simp only [if_pos hm']
      exact o j a ow'
    · simp only [if_neg hm']
      exact S.exc j m a ow' hm
  · by_cases hj : j = i
    · simp only [if_pos hj] at hb
      exact y b hb
    · simp only [if_neg hj] at hb
      exact S.hid j b hb
/-- a slot takes a list of its own -/
theorem SR.setOw (S : SR K M Z H0 F ns H σ ρ) {i : Nat} (hi : i < ρ.length) {a : Addr} {k : Option Nat} {fr : Bool} {vs : List V} {ds : List D} {tl : List Addr} (h1 : H a = some (.lst vs)) (r : RepL K H vs ds tl) (n : a ∉ tl)
    (f : fr = true → ∀ b ∈ a :: tl, H0 b = none) (hm : k = none → H0 a = none) (hk : ∀ n, k = some n → M[n]? = some a) (ex : ∀ j, j ≠ i → a ∉ ns j) (o : ∀ j b, j ≠ i → Own ρ ns j b → b ∉ tl) (nf : ¬ F a) (y : ∀ b ∈ a :: tl, ¬ Z b) :
    SR K M Z H0 F (fun j => if j = i then a :: tl else ns j) H (σ.set i (some (.ref a))) (ρ.set i (some (.ow k fr ds))) := by
  refine ⟨by simpa using S.len, fun j c hc => ?_, fun j hj => ?_, fun j m b ow hjm => ?_, fun j b ow => ?_, S.ent, S.mls, S.fdm, fun j b hb => ?_, S.zdm⟩
  · by_cases hj : j = i
    · subst hj
      rw [get_set_eq hi] at hc
      cases hc
      refine ⟨_, by rw [List.getElem?_set_self (by rw [S.len]; exact hi)], ?_⟩
      simp only [if_pos]
      exact .ow h1 r n f hm hk
    · rw [get_set_ne (Ne.symm hj)] at hc
      obtain ⟨w, e1, ok⟩ := S.cel j c hc
      refine ⟨w, by rw [List.getElem?_set_ne (Ne.symm hj)]; exact e1, ?_⟩
      simp only [if_neg hj]
      exact ok
  · by_cases hj' : j = i
    · subst hj'
      exact absurd (get_set_eq hi) (hj _)
    · simp only [if_neg hj']
      refine S.emp j fun c hc => hj c ?_
      rw [get_set_ne (Ne.symm hj')]
      exact hc
  · by_cases hj : j = i
    · subst hj
      have e : b = a := ow.ow_head (get_set_eq hi) (if_pos rfl)
      subst e
      simp only [if_neg hjm]
      exact ex m hjm
    · have ow' : Own ρ ns j b := ow.set_ne2 hj
      by_cases hm' : m = i
      · simp only [if_pos hm']
        intro hb
        rcases List.mem_cons.mp hb with q | q
        · exact ex j hj (q ▸ ow'.mem)
        · exact o j b hj ow' q
      · simp only [if_neg hm']
        exact S.exc j m b ow' hjm
  · by_cases hj : j = i
    · subst hj
      have e : b = a := ow.ow_head (get_set_eq hi) (if_pos rfl)
      subst e
      exact nf
    · exact S.frz j b (ow.set_ne2 hj)
  · by_cases hj : j = i
    · simp only [if_pos hj] at hb
      exact y b hb
    · simp only [if_neg hj] at hb
      exact S.hid j b hb
theorem put_len (ρ : Sto) (x : Val) : (put ρ x).length = ρ.length := by
  unfold put
  split
  · split
    · simp
    · simp
    · rfl
  · rfl
theorem SR.sto (S : SR K M Z H0 F ns H σ ρ) {i : Nat} (hi : i < ρ.length) {v : V} {x : Val} (k : VOk K Z H0 F ns H σ ρ v x) : ∃ ns', SR K M Z H0 F ns' H (σ.set i (some v)) (sto ρ i x) := by
  cases x with
  | v fr d =>
    cases k with
    | v r f o y => exact ⟨_, S.setSh hi r f o y⟩
  | f fr ds =>
    cases k with
    | f h r n f g ex o z y => exact ⟨_, S.setOw hi (k := none) h r n (fun e b hb => (List.mem_cons.mp hb).elim (fun q => by rw [q]; exact g) (f e b)) (fun _ => g) (fun _ q => nomatch q) (fun j _ => ex j) (fun j b _ ow => o j b ow) z y⟩
  | s j =>
    have S2 := put_sr S (.s j)
    have k2 := k.move (put_dom ρ (.s j)) fun _ _ => put_own
    cases k2 with
    | @s _ _ c h1 h2 =>
    unfold Qq.sto
    simp only [h1]
    obtain ⟨w, e, r, f⟩ := S2.cell h1
    rw [h2] at e; cases e
    refine ⟨_, S2.setSh (by rw [put_len]; exact hi) r f (fun m a ow hm => ?_) (S2.hid j)⟩
    by_cases hmj : m = j
    · subst hmj
      exact put_away (x := .s m) m rfl a ow
    · exact S2.exc m j a ow (Ne.symm hmj) hm

/-! ### statements -/
structure PEn where
  nx : Sto → Prop
  rt : Val → Sto → Prop
  bk : Sto → Prop := fun _ => False
  ct : Sto → Prop := fun _ => False
abbrev PS' := PEn → Sto → Prop
def SimS (K : PySem.W.Frag) (t : TS) (p : PS') : Prop := ∀ (M : List Addr) (Z : Addr → Prop) (H0 : Hp) (F : Addr → Prop) (ns : Nat → List Addr) (H : Hp) (σ : L2.St) (ρ : Sto) (E : PEn) (D : Ends),
  SR K M Z H0 F ns H σ ρ → p E ρ → (∀ σ' H' ns' ρ', SR K M Z H0 F ns' H' σ' ρ' → Ext F H H' → E.nx ρ' → D.nx σ' H') →
  (∀ x v σ' H' ns' ρ', SR K M Z H0 F ns' H' σ' ρ' → Ext F H H' → VOk K Z H0 F ns' H' σ' ρ' v x → E.rt x ρ' → D.rt v H') →
  (∀ σ' H' ns' ρ', SR K M Z H0 F ns' H' σ' ρ' → Ext F H H' → E.bk ρ' → D.bk σ' H') →
  (∀ σ' H' ns' ρ', SR K M Z H0 F ns' H' σ' ρ' → Ext F H H' → E.ct ρ' → D.ct σ' H') → t D σ H
def sSeq (p q : PS') : PS' := fun E ρ => p { E with nx := q E } ρ
theorem simS_seq {t u : TS} {p q : PS'} (h : SimS K t p) (h' : SimS K u q) : SimS K (tSeq t u) (sSeq p q) := fun M Z H0 F ns H σ ρ E D S hp kn kr kb kc =>
  h M Z H0 F ns H σ ρ _ _ S hp (fun σ1 H1 ns1 ρ1 S1 e1 z => h' M Z H0 F ns1 H1 σ1 ρ1 E D S1 z (fun σ2 H2 ns2 ρ2 S2 e2 z => kn σ2 H2 ns2 ρ2 S2 (e1.trans e2) z)
    (fun x v σ2 H2 ns2 ρ2 S2 e2 vx z => kr x v σ2 H2 ns2 ρ2 S2 (e1.trans e2) vx z) (fun σ2 H2 ns2 ρ2 S2 e2 z => kb σ2 H2 ns2 ρ2 S2 (e1.trans e2) z) (fun σ2 H2 ns2 ρ2 S2 e2 z => kc σ2 H2 ns2 ρ2 S2 (e1.trans e2) z)) kr kb kc
def sNext : PS' := fun E ρ => E.nx ρ
theorem simS_next : SimS K tNext sNext := fun M Z H0 F ns H σ ρ E D S hp kn kr kb kc => kn σ H ns ρ S (.refl H) hp
def sBreak : PS' := fun E ρ => E.bk ρ
theorem simS_break : SimS K tBreak sBreak := fun M Z H0 F ns H σ ρ E D S hp kn kr kb kc => kb σ H ns ρ S (.refl H) hp
def sCont : PS' := fun E ρ => E.ct ρ
theorem simS_cont : SimS K tCont sCont := fun M Z H0 F ns H σ ρ E D S hp kn kr kb kc => kc σ H ns ρ S (.refl H) hp
def sRet (p : PX) : PS' := fun E ρ => p ρ E.rt
theorem simS_ret {t : TE} {p : PX} (h : Sim K t p) : SimS K (tRet t) (sRet p) := fun M Z H0 F ns H σ ρ E D S hp kn kr kb kc =>
  h M Z H0 F ns H σ ρ _ _ S hp fun x v H1 ns1 ρ1 S1 e1 d1 vx z => kr x v σ H1 ns1 ρ1 S1 e1 vx z
def sRetN : PS' := fun E ρ => E.rt (.v true .non) ρ
theorem simS_retN : SimS K tRetN sRetN := fun M Z H0 F ns H σ ρ E D S hp kn kr kb kc => kr _ _ σ H ns ρ S (.refl H) .non hp
def sDrop (p : PX) : PS' := fun E ρ => p ρ fun _ ρ1 => E.nx ρ1
theorem simS_drop {t : TE} {p : PX} (h : Sim K t p) : SimS K (tDrop t) (sDrop p) := fun M Z H0 F ns H σ ρ E D S hp kn kr kb kc =>
  h M Z H0 F ns H σ ρ _ _ S hp fun x v H1 ns1 ρ1 S1 e1 d1 vx z => kn σ H1 ns1 ρ1 S1 e1 z
def sIf (c : PT') (p q : PS') : PS' := fun E ρ => c ρ fun b ρ1 => if b = true then p E ρ1 else q E ρ1
theorem simS_if {c : TT} {t u : TS} {pc : PT'} {p q : PS'} (hc : SimT K c pc) (h : SimS K t p) (h' : SimS K u q) : SimS K (tIfS c t u) (sIf pc p q) := fun M Z H0 F ns H σ ρ E D S hp kn kr kb kc => by
  refine hc M Z H0 F ns H σ ρ _ _ S hp fun b H1 ns1 ρ1 S1 e1 d1 z => ?_
  have n2 : ∀ σ' H' ns' ρ', SR K M Z H0 F ns' H' σ' ρ' → Ext F H1 H' → E.nx ρ' → D.nx σ' H' := fun σ2 H2 ns2 ρ2 S2 e2 z => kn σ2 H2 ns2 ρ2 S2 (e1.trans e2) z
  have r2 : ∀ x v σ' H' ns' ρ', SR K M Z H0 F ns' H' σ' ρ' → Ext F H1 H' → VOk K Z H0 F ns' H' σ' ρ' v x → E.rt x ρ' → D.rt v H' := fun x v σ2 H2 ns2 ρ2 S2 e2 vx z => kr x v σ2 H2 ns2 ρ2 S2 (e1.trans e2) vx z
  have b2 : ∀ σ' H' ns' ρ', SR K M Z H0 F ns' H' σ' ρ' → Ext F H1 H' → E.bk ρ' → D.bk σ' H' := fun σ2 H2 ns2 ρ2 S2 e2 z => kb σ2 H2 ns2 ρ2 S2 (e1.trans e2) z
  have c2 : ∀ σ' H' ns' ρ', SR K M Z H0 F ns' H' σ' ρ' → Ext F H1 H' → E.ct ρ' → D.ct σ' H' := fun σ2 H2 ns2 ρ2 S2 e2 z => kc σ2 H2 ns2 ρ2 S2 (e1.trans e2) z
  cases b with
  | true => exact iteT (h M Z H0 F ns1 H1 σ ρ1 E D S1 (by simpa using z) n2 r2 b2 c2)
  | false => exact iteF (h' M Z H0 F ns1 H1 σ ρ1 E D S1 (by simpa using z) n2 r2 b2 c2)

/-! ### targets -/
abbrev PG' := Val → Sto → (Sto → Prop) → Prop
def SimG (K : PySem.W.Frag) (g : TG) (p : PG') : Prop := ∀ (M : List Addr) (Z : Addr → Prop) (H0 : Hp) (F : Addr → Prop) (ns : Nat → List Addr) (H : Hp) (σ : L2.St) (ρ : Sto) (v : V) (x : Val) (P : Sto → Prop) (Q : L2.St → Hp → Prop),
  SR K M Z H0 F ns H σ ρ → VOk K Z H0 F ns H σ ρ v x → p x ρ P → (∀ σ' H' ns' ρ', SR K M Z H0 F ns' H' σ' ρ' → Ext F H H' → P ρ' → Q σ' H') → g v σ H Q
def gN (i : Nat) : PG' := fun x ρ P => i < ρ.length ∧ P (sto ρ i x)
theorem simG_name {i : Nat} : SimG K (gName i) (gN i) := fun M Z H0 F ns H σ ρ v x P Q S vx hp k => by
  obtain ⟨ns', S'⟩ := S.sto hp.1 vx
  exact k _ H ns' _ S' (.refl H) hp.2
def sAsg (p : PX) (g : PG') : PS' := fun E ρ => p ρ fun x ρ1 => g x ρ1 E.nx
theorem simS_asg {t : TE} {p : PX} {g : TG} {pg : PG'} (h : Sim K t p) (hg : SimG K g pg) : SimS K (tAsg t g) (sAsg p pg) := fun M Z H0 F ns H σ ρ E D S hp kn kr kb kc =>
  h M Z H0 F ns H σ ρ _ _ S hp fun x v H1 ns1 ρ1 S1 e1 d1 vx z => hg M Z H0 F ns1 H1 σ ρ1 v x _ _ S1 vx z fun σ2 H2 ns2 ρ2 S2 e2 z => kn σ2 H2 ns2 ρ2 S2 (e1.trans e2) z
/-- (a, b, ..) = a tuple -/
abbrev PGs' := List Val → Sto → (Sto → Prop) → Prop
def SimGs (K : PySem.W.Frag) (g : TGs) (p : PGs') : Prop := ∀ (M : List Addr) (Z : Addr → Prop) (H0 : Hp) (F : Addr → Prop) (ns : Nat → List Addr) (H : Hp) (σ : L2.St) (ρ : Sto) (vs : List V) (fr : Bool) (ds : List D) (tl : List Addr) (P : Sto → Prop) (Q : L2.St → Hp → Prop),
  SR K M Z H0 F ns H σ ρ → RepL K H vs ds tl → (fr = true → ∀ b ∈ tl, H0 b = none) → (∀ b ∈ tl, F b) → (∀ b ∈ tl, ¬ Z b) → p (ds.map (.v fr)) ρ P → (∀ σ' H' ns' ρ', SR K M Z H0 F ns' H' σ' ρ' → Ext F H H' → P ρ' → Q σ' H') → g vs σ H Q
def gsNil : PGs' := fun xs ρ P => match xs with
  | [] => P ρ
  | _ => False
def gsCons (g : PG') (r : PGs') : PGs' := fun xs ρ P => match xs with
  | x :: xs => g x ρ fun ρ1 => r xs ρ1 P
  | [] => False
theorem simGs_nil : SimGs K gNil gsNil := fun M Z H0 F ns H σ ρ vs fr ds tl P Q S r f hf hz hp k => by
  cases r with
  | nil => exact ⟨rfl, k σ H ns ρ S (.refl H) hp⟩
  | cons _ _ _ => exact hp.elim
theorem simGs_cons {g : TG} {pg : PG'} {gs : TGs} {pr : PGs'} (h : SimG K g pg) (h' : SimGs K gs pr) : SimGs K (gCons g gs) (gsCons pg pr) := fun M Z H0 F ns H σ ρ vs fr ds tl P Q S r f hf hz hp k => by
  cases r with
  | nil => exact hp.elim
  | @cons v vs d ds n1 n2 _ r1 r2 q =>
    subst q
    refine ⟨v, vs, rfl, h M Z H0 F ns H σ ρ v _ _ _ S (.v r1 (fun e b hb => f e b (List.mem_append_left _ hb)) (fun i a ow hm => S.frz i a ow (hf a (List.mem_append_left _ hm))) fun b hb => hz b (List.mem_append_left _ hb)) hp fun σ1 H1 ns1 ρ1 S1 e1 z => ?_⟩
    exact h' M Z H0 F ns1 H1 σ1 ρ1 vs fr ds n2 P Q S1 (r2.frame e1 fun b hb => hf b (List.mem_append_right _ hb)) (fun e b hb => f e b (List.mem_append_right _ hb)) (fun b hb => hf b (List.mem_append_right _ hb)) (fun b hb => hz b (List.mem_append_right _ hb)) z fun σ2 H2 ns2 ρ2 S2 e2 z => k σ2 H2 ns2 ρ2 S2 (e1.trans e2) z
def gT (n : Nat) (g : PGs') : PG' := fun x ρ P => match x with
  | .v fr (.tup ds) => ds.length = n ∧ g (ds.map (.v fr)) ρ P
  | _ => False
theorem simG_tup {n : Nat} {g : TGs} {pg : PGs'} (h : SimGs K g pg) : SimG K (gTup K n g) (gT n pg) := fun M Z H0 F ns H σ ρ v x P Q S vx hp k => by
  unfold gT at hp
  split at hp
  · rename_i fr ds
    obtain ⟨a, vs, tl, rfl, h1, I1⟩ := vx.tup S rfl
    refine ⟨a, vs, rfl, h1, I1.rep.length.trans hp.1, ?_⟩
    refine h M Z H0 _ ns H σ ρ vs fr ds tl P Q (S.more (G := fun b => b ∈ tl) (fun i a ow hm => I1.own i a ow hm) fun b hb => let ⟨o, e, _⟩ := I1.rep.dom b hb; ⟨o, e⟩) I1.rep I1.fre (fun b hb => .inr hb) I1.hid hp.2 fun σ1 H1 ns1 ρ1 S1 e1 z => ?_
    exact k σ1 H1 ns1 ρ1 (S1.weak fun b h => .inl h) (e1.weak fun b h => .inl h) z
  · exact hp.elim
/-- name op= e -/
def IpSim (K : PySem.W.Frag) (r : TIp) (k : KO) : Prop := ∀ (M : List Addr) (Z : Addr → Prop) (H0 : Hp) (F : Addr → Prop) (ns : Nat → List Addr) (H : Hp) (σ : L2.St) (ρ : Sto) (P : Val → Sto → Prop) (Q : VK) (x y : Val) (v u : V),
  SR K M Z H0 F ns H σ ρ → VOk K Z H0 F ns H σ ρ v x → VOk K Z H0 F ns H σ ρ u y → k x y ρ P →
  (∀ x v H' ns' ρ', SR K M Z H0 F ns' H' σ ρ' → Ext F H H' → Dom ρ ρ' → VOk K Z H0 F ns' H' σ ρ' v x → P x ρ' → Q v H') → r v u H Q
def sAug (i : Nat) (p : PX) (k : KO) : PS' := fun E ρ => match ρ[i]? with
  | some (some (.sh fr d)) => p ρ fun y ρ1 => ρ1[i]? = some (some (.sh fr d)) ∧ k (.v fr d) y ρ1 fun z ρ2 => i < ρ2.length ∧ E.nx (sto ρ2 i z)
  | _ => False
theorem simS_aug {i : Nat} {t : TE} {p : PX} {r : TIp} {k : KO} (h : Sim K t p) (hr : IpSim K r k) : SimS K (tAug i t r) (sAug i p k) := fun M Z H0 F ns H σ ρ E D S hp kn kr kb kc => by
  unfold sAug at hp
  split at hp
  · rename_i fr d e
    obtain ⟨v, e1, _⟩ := S.cell e
    refine ⟨v, e1, h M Z H0 F ns H σ ρ _ _ S hp fun y u H1 ns1 ρ1 S1 e1' d1 vy z => ?_⟩
    obtain ⟨w, e2, r2, f2⟩ := S1.cell z.1
    rw [e1] at e2; cases e2
    have vx : VOk K Z H0 F ns1 H1 σ ρ1 v (.v fr d) := .v r2 f2 (fun j a ow hm => by
      by_cases hj : j = i
      · subst hj
        exact (ow.noSh z.1).elim
      · exact S1.exc j i a ow (Ne.symm hj) hm) (S1.hid i)
    refine hr M Z H0 F ns1 H1 σ ρ1 _ _ _ _ v u S1 vx vy z.2 fun q w' H2 ns2 ρ2 S2 e2 d2 vz z2 => ?_
    obtain ⟨ns3, S3⟩ := S2.sto z2.1 vz
    exact kn _ H2 ns3 _ S3 (e1'.trans e2) z2.2
  · exact hp.elim
theorem ipSim_I {f : Int → Int → Int} : IpSim K (ipI f) (kP (gI0 fun i j => .int (f i j))) := fun M Z H0 F ns H σ ρ P Q x y v u S vx vy q k => opSim_pure opPure_I0 M Z H0 F ns H σ ρ P Q x y v u S vx vy q k
theorem ipSim_of {r : R2} {k : KO} (h : OpSim K r k) : IpSim K r k := h
end
end Qq

namespace Qq
open PySem PySem.Spec PyProof.Rows L2
section
variable {K : PySem.W.Frag} {M : List Addr} {Z : Addr → Prop} {H0 H H' : Hp} {F G : Addr → Prop} {ns : Nat → List Addr} {σ : L2.St} {ρ : Sto}

/-! ### what is walked -/
structure ItOk (K : PySem.W.Frag) (Z : Addr → Prop) (H0 : Hp) (F : Addr → Prop) (J : It) (H1 : Hp) (items : List Val) : Prop where
  go : ∀ i H2, Ext F H1 H2 → i < items.length → J.go i H2
  stop : ∀ i H2, Ext F H1 H2 → items.length ≤ i → J.stop i H2
  yld : ∀ i H2 v H3, Ext F H1 H2 → i < items.length → J.yld i H2 v H3 → ∃ fr d ms, items[i]? = some (.v fr d) ∧ Same H2 H3 ∧ Rep K H3 v d ms ∧ (fr = true → ∀ b ∈ ms, H0 b = none) ∧ (∀ b ∈ ms, F b) ∧ ∀ b ∈ ms, ¬ Z b
abbrev PI' := Sto → (List Val → Sto → Prop) → Prop
def SimI (K : PySem.W.Frag) (w : TI) (p : PI') : Prop := ∀ (M : List Addr) (Z : Addr → Prop) (H0 : Hp) (F : Addr → Prop) (ns : Nat → List Addr) (H : Hp) (σ : L2.St) (ρ : Sto) (P : List Val → Sto → Prop) (R : It → Hp → Prop),
  SR K M Z H0 F ns H σ ρ → p ρ P → (∀ J items (F' : Addr → Prop) H' ns' ρ', SR K M Z H0 F' ns' H' σ ρ' → (∀ b, F b → F' b) → Ext F H H' → Dom ρ ρ' → ItOk K Z H0 F' J H' items → P items ρ' → R J H') → w σ H R
def pLoop (g : PG') (b : PS') (E : PEn) : List Val → Sto → Prop
  | [], ρ => E.nx ρ
  | x :: xs, ρ => g x ρ fun ρ1 => b { E with nx := pLoop g b E xs, ct := pLoop g b E xs, bk := E.nx } ρ1
def sFor (p : PI') (g : PG') (b : PS') : PS' := fun E ρ => p ρ fun items ρ1 => pLoop g b E items ρ1
theorem simS_for {w : TI} {p : PI'} {g : TG} {pg : PG'} {tb : TS} {pb : PS'} (hi : SimI K w p) (hg : SimG K g pg) (hb : SimS K tb pb) : SimS K (tFor w g tb) (sFor p pg pb) := fun M Z H0 F ns H σ ρ E D S hp kn kr kb kc => by
  refine hi M Z H0 F ns H σ ρ _ _ S hp fun J items F' H1 ns1 ρ1 S1 fF e1 d1 ok q => ?_
  refine ⟨fun i m σ2 H2 => m = items.length - i ∧ i ≤ items.length ∧ ∃ ns2 ρ2, SR K M Z H0 F' ns2 H2 σ2 ρ2 ∧ Ext F' H1 H2 ∧ pLoop pg pb E (items.drop i) ρ2, ⟨items.length, by simp, Nat.zero_le _, ns1, ρ1, S1, .refl H1, by simpa using q⟩, ?_⟩
  rintro i m σ2 H2 ⟨rfl, hi, ns2, ρ2, S2, e2, q2⟩
  have e02 : Ext F H H2 := e1.trans (e2.weak fF)
  by_cases hlt : i < items.length
  · refine .inr ⟨ok.go i H2 e2 hlt, fun σ3 H3 => ∃ ns3 ρ3, SR K M Z H0 F' ns3 H3 σ3 ρ3 ∧ Ext F' H1 H3 ∧ pLoop pg pb E (items.drop (i + 1)) ρ3, fun σ3 H3 ⟨ns3, ρ3, S3, e3, q3⟩ => ⟨items.length - (i + 1), by omega, rfl, hlt, ns3, ρ3, S3, e3, q3⟩, fun v H3 hy => ?_⟩
    obtain ⟨fr, d, ms, hx, sm, r, f, hF, hZ⟩ := ok.yld i H2 v H3 e2 hlt hy
    have hd : items.drop i = .v fr d :: items.drop (i + 1) := by
      rw [List.drop_eq_getElem_cons hlt]
      have : items[i] = .v fr d := by
        rw [List.getElem?_eq_getElem hlt] at hx
        exact Option.some.inj hx
      rw [this]
    rw [hd] at q2
    have S3 := S2.grow sm
    have e3 : Ext F' H1 H3 := e2.trans (.same sm)
    refine hg M Z H0 F' ns2 H3 σ2 ρ2 v _ _ _ S3 (.v r f (fun j a ow hm => S3.frz j a ow (hF a hm)) hZ) q2 fun σ4 H4 ns4 ρ4 S4 e4 q4 => ?_
    have e14 := e3.trans e4
    refine hb M Z H0 F' ns4 H4 σ4 ρ4 _ _ S4 q4 (fun σ5 H5 ns5 ρ5 S5 e5 q5 => ⟨ns5, ρ5, S5, e14.trans e5, q5⟩) (fun x u σ5 H5 ns5 ρ5 S5 e5 vx q5 => ?_) (fun σ5 H5 ns5 ρ5 S5 e5 q5 => ?_) (fun σ5 H5 ns5 ρ5 S5 e5 q5 => ⟨ns5, ρ5, S5, e14.trans e5, q5⟩)
    · exact kr x u σ5 H5 ns5 ρ5 (S5.weak fF) (e1.trans ((e14.trans e5).weak fF)) (vx.weak fF) q5
    · exact kn σ5 H5 ns5 ρ5 (S5.weak fF) (e1.trans ((e14.trans e5).weak fF)) q5
  · have ei : items.drop i = [] := List.drop_eq_nil_of_le (by omega)
    rw [ei] at q2
    exact .inl ⟨ok.stop i H2 e2 (by omega), kn σ2 H2 ns2 ρ2 (S2.weak fF) e02 q2⟩

/-- the items of a range -/
def rgs (lo c : Int) (n : Nat) : List Val := (List.range n).map fun (i : Nat) => .v true (.int (lo + (i : Int) * c))
theorem rgs_get {lo c : Int} {n i : Nat} (h : i < n) : (rgs lo c n)[i]? = some (.v true (.int (lo + (i : Int) * c))) := by
  simp [rgs, h]
theorem rgs_len {lo c : Int} {n : Nat} : (rgs lo c n).length = n := by simp [rgs]
def R62 (i : Int) : Prop := -(2 ^ 62) ≤ i ∧ i < 2 ^ 62
def kR1 : List Val → Sto → (List Val → Sto → Prop) → Prop := fun xs ρ P => match resAll ρ xs with
  | some [.int j] => R62 j ∧ P (rgs 0 1 j.toNat) ρ
  | _ => False
def kR2 : List Val → Sto → (List Val → Sto → Prop) → Prop := fun xs ρ P => match resAll ρ xs with
  | some [.int i, .int j] => (R62 i ∧ R62 j) ∧ P (rgs i 1 (j - i).toNat) ρ
  | _ => False
/-- counting down by ones -/
def kR3 : List Val → Sto → (List Val → Sto → Prop) → Prop := fun xs ρ P => match resAll ρ xs with
  | some [.int i, .int j, .int c] => c = -1 ∧ (R62 i ∧ R62 j) ∧ P (rgs i (-1) (i - j).toNat) ρ
  | _ => False
def pIA (k : List Val → Sto → (List Val → Sto → Prop) → Prop) (p : PAs) : PI' := fun ρ P => p ρ fun xs ρ1 => k xs ρ1 P
theorem itOk_range {lo : Int} {n : Nat} : ItOk K Z H0 F (Itr lo n) H (rgs lo 1 n) := by
  refine ⟨fun i H2 _ h => by rw [rgs_len] at h; exact h, fun i H2 _ h => by rw [rgs_len] at h; exact h, fun i H2 v H3 _ h hy => ?_⟩
  rw [rgs_len] at h
  obtain ⟨rfl, rfl⟩ := hy
  refine ⟨true, _, [], rgs_get h, Same.refl _, ?_, (fun _ _ z => nomatch z), (fun _ z => nomatch z), (fun _ z => nomatch z)⟩
  rw [Int.mul_one]
  exact .int _
theorem itOk_rangeC {lo c : Int} {n : Nat} : ItOk K Z H0 F (Itc lo c n) H (rgs lo c n) := by
  refine ⟨fun i H2 _ h => by rw [rgs_len] at h; exact h, fun i H2 _ h => by rw [rgs_len] at h; exact h, fun i H2 v H3 _ h hy => ?_⟩
  rw [rgs_len] at h
  obtain ⟨rfl, rfl⟩ := hy
  exact ⟨true, _, [], rgs_get h, Same.refl _, .int _, (fun _ _ z => nomatch z), (fun _ z => nomatch z), (fun _ z => nomatch z)⟩
theorem resAll_ints1 (S : SR K M Z H0 F ns H σ ρ) {xs : List Val} {vs : List V} {i : Int} (r : Paired (VOk K Z H0 F ns H σ ρ) vs xs) (h : resAll ρ xs = some [.int i]) : vs = [.int i] := by
  have := resAll_rep S r h
  cases this with
  | cons a t => cases t; obtain ⟨_, a⟩ := a; cases a; rfl
theorem resAll_ints2 (S : SR K M Z H0 F ns H σ ρ) {xs : List Val} {vs : List V} {i j : Int} (r : Paired (VOk K Z H0 F ns H σ ρ) vs xs) (h : resAll ρ xs = some [.int i, .int j]) : vs = [.int i, .int j] := by
  have := resAll_rep S r h
  cases this with
  | cons a t => cases t with
    | cons b t => cases t; obtain ⟨_, a⟩ := a; obtain ⟨_, b⟩ := b; cases a; cases b; rfl
theorem resAll_ints3 (S : SR K M Z H0 F ns H σ ρ) {xs : List Val} {vs : List V} {i j c : Int} (r : Paired (VOk K Z H0 F ns H σ ρ) vs xs) (h : resAll ρ xs = some [.int i, .int j, .int c]) : vs = [.int i, .int j, .int c] := by
  have := resAll_rep S r h
  cases this with
  | cons a t => cases t with
    | cons b t => cases t with
      | cons c t => cases t; obtain ⟨_, a⟩ := a; obtain ⟨_, b⟩ := b; obtain ⟨_, c⟩ := c; cases a; cases b; cases c; rfl
theorem simI_r1 {t : TA} {p : PAs} (h : SimA K t p) : SimI K (iRng1 t) (pIA kR1 p) := fun M Z H0 F ns H σ ρ P R S hp k => by
  refine h M Z H0 F ns H σ ρ _ _ S hp fun xs vs H1 ns1 ρ1 S1 e1 d1 vx q => ?_
  unfold kR1 at q
  split at q
  · rename_i j e
    exact ⟨j, resAll_ints1 S1 vx e, q.1.1, q.1.2, k _ _ F H1 ns1 ρ1 S1 (fun _ h => h) e1 d1 itOk_range q.2⟩
  · exact q.elim
theorem simI_r2 {t : TA} {p : PAs} (h : SimA K t p) : SimI K (iRng2 t) (pIA kR2 p) := fun M Z H0 F ns H σ ρ P R S hp k => by
  refine h M Z H0 F ns H σ ρ _ _ S hp fun xs vs H1 ns1 ρ1 S1 e1 d1 vx q => ?_
  unfold kR2 at q
  split at q
  · rename_i i j e
    exact ⟨i, j, resAll_ints2 S1 vx e, ⟨q.1.1.1, q.1.1.2, q.1.2.1, q.1.2.2⟩, k _ _ F H1 ns1 ρ1 S1 (fun _ h => h) e1 d1 itOk_range q.2⟩
  · exact q.elim
theorem simI_r3 {t : TA} {p : PAs} (h : SimA K t p) : SimI K (iRng3 t) (pIA kR3 p) := fun M Z H0 F ns H σ ρ P R S hp k => by
  refine h M Z H0 F ns H σ ρ _ _ S hp fun xs vs H1 ns1 ρ1 S1 e1 d1 vx q => ?_
  unfold kR3 at q
  split at q
  · rename_i i j c e
    obtain ⟨rfl, ⟨⟨a1, a2⟩, b1, b2⟩, q⟩ := q
    exact ⟨i, j, -1, _, resAll_ints3 S1 vx e, .neg a1 a2 b1 b2, k _ _ F H1 ns1 ρ1 S1 (fun _ h => h) e1 d1 itOk_rangeC q⟩
  · exact q.elim

/-! a list, a tuple, a text -/
def iAny (K : PySem.W.Frag) (tl : TE) : TI := fun σ H R => tl σ H fun x H1 =>
  (∃ a, x = .ref a ∧ (∃ xs, SqL K H1 a xs) ∧ R (Itl K a) H1) ∨ (∃ a, x = .ref a ∧ (∃ xs, SqT K H1 a xs) ∧ R (Itt K a) H1) ∨ ∃ y, x = .str y ∧ R (Its y) H1
theorem pi_any {X : Cx} {tg l : Expr} {tl : TE} (hl : PE X l tl) : PI X tg l (iAny X.K tl) := by
  refine ⟨fun pins s σ H R I h => ?_⟩
  refine thn (hl.run pins s σ H _ I h) fun v s1 hv => ?_
  obtain ⟨x, H1, I1, r1, q⟩ := hv
  rcases q with ⟨a, e, ⟨xs, hq⟩, q⟩ | ⟨a, e, ⟨xs, hq⟩, q⟩ | ⟨y, e, q⟩
  · subst e
    cases r1
    obtain ⟨its, _, pl, _⟩ := I1.list hq
    exact wpAny_pyIter_list pl.isList (pi_one (tk := s1.toks) I1 _ (turn_list a _) ⟨_, Heap.get?_push_size _ rfl, rfl, rfl⟩ q)
  · subst e
    cases r1
    obtain ⟨its, _, pl, _⟩ := I1.tuple hq
    exact wpAny_pyIter_tuple (show s1.heap.IsTuple a its.toArray from pl) (pi_one (tk := s1.toks) I1 _ (turn_tuple a _) ⟨_, Heap.get?_push_size _ rfl, rfl, rfl⟩ q)
  · subst e
    obtain ⟨t, rfl⟩ := r1
    by_cases ha : y.cps.all (· < 128) = true
    · exact wpAny_pyIter_ascii ha (pi_one (tk := s1.toks) I1 _ (turn_str _ y t "str_ascii_iterator" (.inl rfl)) ⟨_, Heap.get?_push_size _ rfl, rfl, rfl⟩ q)
    · exact wpAny_pyIter_wide (Bool.not_eq_true _ ▸ ha) (pi_one (tk := s1.toks) I1 _ (turn_str _ y t "str_iterator" (.inr rfl)) ⟨_, Heap.get?_push_size _ rfl, rfl, rfl⟩ q)
theorem itOk_list {a : Addr} {vs : List V} {ds : List D} {tl : List Addr} {fr : Bool} (h : ∀ H2, Ext F H H2 → SqL K H2 a vs)
    (r : RepL K H vs ds tl) (f : fr = true → ∀ b ∈ tl, H0 b = none) (hF : ∀ b ∈ tl, F b) (hZ : ∀ b ∈ tl, ¬ Z b) : ItOk K Z H0 F (Itl K a) H (ds.map (.v fr)) := by
  refine ⟨fun i H2 e hi => ?_, fun i H2 e hi => ⟨vs, h H2 e, ?_⟩, fun i H2 v H3 e hi hy => ?_⟩
  · rw [List.length_map] at hi
    have hi' : i < vs.length := by rw [r.length]; exact hi
    exact ⟨vs, vs[i], h H2 e, List.getElem?_eq_getElem hi'⟩
  · rw [List.length_map] at hi
    rw [r.length]; exact hi
  · rw [List.length_map] at hi
    obtain ⟨rfl, hx⟩ := hy
    obtain ⟨d, ms, hd, r1, hm⟩ := r.getV (hx vs (h _ e))
    exact ⟨fr, d, ms, by simp [hd], Same.refl _, r1.frame e (fun b hb => hF b (hm b hb)), fun q b hb => f q b (hm b hb), fun b hb => hF b (hm b hb), fun b hb => hZ b (hm b hb)⟩
theorem itOk_tup {a : Addr} {vs : List V} {ds : List D} {tl : List Addr} {fr : Bool} (h : SqT K H a vs) (r : RepL K H vs ds tl) (f : fr = true → ∀ b ∈ tl, H0 b = none) (hF : ∀ b ∈ tl, F b) (hZ : ∀ b ∈ tl, ¬ Z b) : ItOk K Z H0 F (Itt K a) H (ds.map (.v fr)) := by
  refine ⟨fun i H2 e hi => ?_, fun i H2 e hi => ⟨vs, e.sqT h, ?_⟩, fun i H2 v H3 e hi hy => ?_⟩
  · rw [List.length_map] at hi
    have hi' : i < vs.length := by rw [r.length]; exact hi
    exact ⟨vs, vs[i], e.sqT h, List.getElem?_eq_getElem hi'⟩
  · rw [List.length_map] at hi
    rw [r.length]; exact hi
  · rw [List.length_map] at hi
    obtain ⟨rfl, hx⟩ := hy
    obtain ⟨d, ms, hd, r1, hm⟩ := r.getV (hx vs (e.sqT h))
    exact ⟨fr, d, ms, by simp [hd], Same.refl _, r1.frame e (fun b hb => hF b (hm b hb)), fun q b hb => f q b (hm b hb), fun b hb => hF b (hm b hb), fun b hb => hZ b (hm b hb)⟩
theorem itOk_str {y : Str} {x : List Nat} (h : y.cps.toList = x) : ItOk K Z H0 F (Its y) H (x.map fun c => .v true (.str [c])) := by
  have hs : y.cps.size = x.length := by rw [← h, Array.length_toList]
  refine ⟨fun i H2 e hi => by rw [List.length_map] at hi; show i < y.cps.size; omega, fun i H2 e hi => by rw [List.length_map] at hi; show y.cps.size ≤ i; omega, fun i H2 v H3 e hi hy => ?_⟩
  rw [List.length_map] at hi
  obtain ⟨rfl, c, hc, rfl⟩ := hy
  have hx : x[i]? = some c := by rw [← h, Array.getElem?_toList]; exact hc
  exact ⟨true, .str [c], [], by simp [hx], Same.refl _, .str rfl, (fun _ _ z => nomatch z), (fun _ z => nomatch z), (fun _ z => nomatch z)⟩
/-- what is walked is no longer alone -/
def pIter (p : PX) : PI' := fun ρ P => p ρ fun x ρ1 => match res (put ρ1 x) x with
  | some (.lst ds) => P (ds.map (.v (resF (put ρ1 x) x))) (put ρ1 x)
  | some (.lsr ds) => P (ds.map (.v (resF (put ρ1 x) x))) (put ρ1 x)
  | some (.tup ds) => P (ds.map (.v (resF (put ρ1 x) x))) (put ρ1 x)
  | some (.str y) => P (y.map fun c => .v true (.str [c])) (put ρ1 x)
  | _ => False
theorem simI_any {t : TE} {p : PX} (h : Sim K t p) : SimI K (iAny K t) (pIter p) := fun M Z H0 F ns H σ ρ P R S hp k => by
  refine h M Z H0 F ns H σ ρ _ _ S hp fun x v H1 ns1 ρ1 S1 e1 d1 vx q => ?_
  have S2 := put_sr S1 x
  have vx2 := vx.move (put_dom ρ1 x) fun _ _ => put_own (x := x)
  have d2 := d1.trans (put_dom ρ1 x)
  have aw : Away (ns := ns1) (put ρ1 x) x := put_away
  split at q
  · rename_i ds hx
    obtain ⟨ms, r, f, o, y⟩ := vx2.any S2 aw hx
    cases r with
    | @lst a vs _ tl h1 r =>
      refine .inl ⟨_, rfl, ⟨_, .of h1⟩, k _ _ (fun b => F b ∨ b ∈ a :: tl) H1 ns1 _ (S2.more (G := fun b => b ∈ a :: tl) (fun i b ow hm => o i b ow hm) fun b hb => let ⟨z, e, _⟩ := (Rep.lst h1 r).dom b hb; ⟨z, e⟩) (fun b h => .inl h) e1 d2 ?_ q⟩
      exact itOk_list (fun H2 e => .of (e.keep _ _ (.inr List.mem_cons_self) h1)) r (fun e b hb => f e b (List.mem_cons_of_mem _ hb)) (fun b hb => .inr (List.mem_cons_of_mem _ hb)) fun b hb => y b (List.mem_cons_of_mem _ hb)
  · rename_i ds hx
    obtain ⟨ms, r, f, o, y⟩ := vx2.any S2 aw hx
    cases r with
    | @lstR a vs _ tl h1 r =>
      refine .inl ⟨_, rfl, ⟨_, h1 H1 fun _ _ z => z⟩, k _ _ (fun b => F b ∨ b ∈ ms) H1 ns1 _ (S2.more (G := fun b => b ∈ ms) (fun i b ow hm => o i b ow hm) fun b hb => let ⟨z, e, _⟩ := r.dom b hb; ⟨z, e⟩) (fun b h => .inl h) e1 d2 ?_ q⟩
      exact itOk_list (fun H2 e => h1 H2 fun ob u z => e.frzs _ _ _ z) r f (fun b hb => .inr hb) y
  · rename_i ds hx
    obtain ⟨ms, r, f, o, y⟩ := vx2.any S2 aw hx
    cases r with
    | @tup a vs _ tl h1 r =>
      refine .inr (.inl ⟨_, rfl, ⟨_, h1⟩, k _ _ (fun b => F b ∨ b ∈ ms) H1 ns1 _ (S2.more (G := fun b => b ∈ ms) (fun i b ow hm => o i b ow hm) fun b hb => let ⟨z, e, _⟩ := r.dom b hb; ⟨z, e⟩) (fun b h => .inl h) e1 d2 ?_ q⟩)
      exact itOk_tup h1 r f (fun b hb => .inr hb) y
  · rename_i y hx
    obtain ⟨z, rfl, e⟩ := vx2.strV S2 hx
    exact .inr (.inr ⟨_, rfl, k _ _ F H1 ns1 _ S2 (fun _ h => h) e1 d2 (itOk_str e) q⟩)
  · exact q.elim

/-! ### while -/
def sWhile (c : PT') (b : PS') : PS' := fun E ρ => ∃ (W : Sto → Prop) (μ : Sto → Nat), W ρ ∧ ∀ ρ, W ρ → c ρ fun k ρ1 => if k = true then b { E with nx := fun ρ' => W ρ' ∧ μ ρ' < μ ρ, ct := fun ρ' => W ρ' ∧ μ ρ' < μ ρ, bk := E.nx } ρ1 else E.nx ρ1
theorem simS_while {c : TT} {pc : PT'} {tb : TS} {pb : PS'} (hc : SimT K c pc) (hb : SimS K tb pb) : SimS K (tWhile c tb) (sWhile pc pb) := fun M Z H0 F ns H σ ρ E D S hp kn kr kb kc => by
  obtain ⟨W, μ, w0, step⟩ := hp
  refine ⟨fun m σ2 H2 => ∃ ns2 ρ2, m = μ ρ2 ∧ W ρ2 ∧ SR K M Z H0 F ns2 H2 σ2 ρ2 ∧ Ext F H H2, ⟨_, ns, ρ, rfl, w0, S, .refl H⟩, ?_⟩
  rintro m σ2 H2 ⟨ns2, ρ2, rfl, w2, S2, e2⟩
  refine hc M Z H0 F ns2 H2 σ2 ρ2 _ _ S2 (step ρ2 w2) fun b H3 ns3 ρ3 S3 e3 d3 q => ?_
  cases b with
  | false => exact iteF (kn σ2 H3 ns3 ρ3 S3 (e2.trans e3) (by simpa using q))
  | true =>
    refine iteT ⟨fun σ4 H4 => ∃ ns4 ρ4, μ ρ4 < μ ρ2 ∧ W ρ4 ∧ SR K M Z H0 F ns4 H4 σ4 ρ4 ∧ Ext F H H4, fun σ4 H4 ⟨ns4, ρ4, hm, w4, S4, e4⟩ => ⟨_, hm, ns4, ρ4, rfl, w4, S4, e4⟩, ?_⟩
    rw [if_pos rfl] at q
    have e03 := e2.trans e3
    refine hb M Z H0 F ns3 H3 σ2 ρ3 _ _ S3 q (fun σ5 H5 ns5 ρ5 S5 e5 z => ⟨ns5, ρ5, z.2, z.1, S5, e03.trans e5⟩) (fun x v σ5 H5 ns5 ρ5 S5 e5 vx z => ?_) (fun σ5 H5 ns5 ρ5 S5 e5 z => ?_) (fun σ5 H5 ns5 ρ5 S5 e5 z => ⟨ns5, ρ5, z.2, z.1, S5, e03.trans e5⟩)
    · exact kr x v σ5 H5 ns5 ρ5 S5 (e03.trans e5) vx z
    · exact kn σ5 H5 ns5 ρ5 S5 (e03.trans e5) z
end
end Qq

namespace Qq
open PySem PySem.Spec PyProof.Rows L2
section
variable {K : PySem.W.Frag} {M : List Addr} {Z : Addr → Prop} {H0 H H' : Hp} {F G : Addr → Prop} {ns : Nat → List Addr} {σ : L2.St} {ρ : Sto}

/-! ### an owned list is written -/
/-- what is known of the list in a slot -/
structure Head (K : PySem.W.Frag) (M : List Addr) (Z : Addr → Prop) (H0 H : Hp) (F : Addr → Prop) (ns : Nat → List Addr) (ρ : Sto) (i : Nat) (k : Option Nat) (fr : Bool) (ds : List D) (a : Addr) (vs : List V) (tl : List Addr) : Prop where
  nsi : ns i = a :: tl
  obj : H a = some (.lst vs)
  rep : RepL K H vs ds tl
  out : a ∉ tl
  fre : fr = true → ∀ b ∈ a :: tl, H0 b = none
  knone : k = none → H0 a = none
  ksome : ∀ n, k = some n → M[n]? = some a
  items : Items K Z H0 H ns ρ fr vs ds tl
  exc : ∀ j, j ≠ i → a ∉ ns j
  nF : ¬ F a
  nZ : ¬ Z a
theorem SR.head (S : SR K M Z H0 F ns H σ ρ) {i : Nat} {k : Option Nat} {fr : Bool} {ds : List D} (e : ρ[i]? = some (some (.ow k fr ds))) : ∃ a vs tl, σ[i]? = some (some (.ref a)) ∧ Head K M Z H0 H F ns ρ i k fr ds a vs tl := by
  obtain ⟨v, e1, ok⟩ := S.cel i _ e
  generalize hn : ns i = m at ok
  cases ok with
  | @ow a _ _ vs _ tl h1 r n f g hk =>
    have ow : Own ρ ns i a := .inl ⟨k, fr, ds, e, by rw [hn]; rfl⟩
    refine ⟨a, vs, tl, e1, hn, h1, r, n, f, g, hk, ⟨r, fun q b hb => f q b (List.mem_cons_of_mem _ hb), fun j b ob hm => ?_, fun b hb => S.hid i b (by rw [hn]; exact List.mem_cons_of_mem _ hb)⟩, fun j hj => S.exc i j a ow hj, S.frz i a ow, S.hid i a (by rw [hn]; exact List.mem_cons_self)⟩
    by_cases hj : j = i
    · subst hj
      have := ob.ow_head e hn
      subst this
      exact n hm
    · exact S.exc j i b ob (Ne.symm hj) (by rw [hn]; exact List.mem_cons_of_mem _ hm)
theorem Head.inM {i : Nat} {k : Option Nat} {fr : Bool} {ds : List D} {a : Addr} {vs : List V} {tl : List Addr} (h : Head K M Z H0 H F ns ρ i k fr ds a vs tl) : H0 a = none ∨ a ∈ M := by
  cases k with
  | none => exact .inl (h.knone rfl)
  | some n => exact .inr (List.mem_of_getElem? (h.ksome n rfl))
theorem ext_write {a : Addr} {vs ws : List V} (h : H a = some (.lst vs)) (nF : ¬ F a) : Ext F H (upd H a (.lst ws)) := by
  refine ⟨fun b o f e => ?_, fun b xs e => ?_, fun b o u e => ?_, fun b e => ?_⟩
  · rw [upd_ne (fun q => by subst q; exact nF f)]; exact e
  · rw [upd_ne (fun q => by rw [q, h] at e; cases e)]; exact e
  · rw [upd_ne (fun q => by rw [q, h] at e; cases e)]; exact e
  · by_cases q : b = a
    · rw [q, upd_same] at e; cases e
    · rw [upd_ne q] at e; exact e
theorem SR.writeG (S : SR K M Z H0 F ns H σ ρ) {i : Nat} {k : Option Nat} {fr gr : Bool} {ds es : List D} {a : Addr} {vs ws : List V} {tl ul : List Addr} (e : ρ[i]? = some (some (.ow k fr ds))) (e1 : σ[i]? = some (some (.ref a)))
    (h : Head K M Z H0 H F ns ρ i k fr ds a vs tl) (ex : Ext (fun b => b ≠ a) H H') (ho : H' a = some (.lst ws)) (r : RepL K H' ws es ul) (n : a ∉ ul) (f : gr = true → ∀ b ∈ a :: ul, H0 b = none) (o : ∀ j b, Own ρ ns j b → b ∉ ul) (y : ∀ b ∈ ul, ¬ Z b) :
    ∃ ns', SR K M Z H0 F ns' H' σ (ρ.set i (some (.ow k gr es))) ∧ (∀ j b, Own (ρ.set i (some (.ow k gr es))) ns' j b → Own ρ ns j b) ∧ ∀ j b, b ∈ ns' j → b = a ∨ b ∈ ul ∨ b ∈ ns j := by
  have hi : i < ρ.length := (List.getElem?_eq_some_iff.mp e).1
  have ownE : ∀ {j b}, Own (ρ.set i (some (.ow k gr es))) (fun j => if j = i then a :: ul else ns j) j b → (j = i ∧ b = a) ∨ (j ≠ i ∧ Own ρ ns j b) := fun {j b} ow => by
    by_cases hj : j = i
    · subst hj
      exact .inl ⟨rfl, ow.ow_head (get_set_eq hi) (if_pos rfl)⟩
    · exact .inr ⟨hj, ow.set_ne2 hj⟩
  have ow0 : Own ρ ns i a := .inl ⟨k, fr, ds, e, by rw [h.nsi]; rfl⟩
  have kp : ∀ b x, b ≠ a → H b = some x → H' b = some x := fun b x q z => ex.keep b x q z
  refine ⟨fun j => if j = i then a :: ul else ns j, ⟨by simpa using S.len, fun j c hc => ?_, fun j hj => ?_, fun j m b ow hjm => ?_, fun j b ow => ?_, fun b ob hb hm => ?_, fun b hb => ⟨(S.mls b hb).1, ?_⟩, fun b hb => ?_, fun j b hb => ?_, fun b hb => ?_⟩, fun j b ow => ?_, fun j b hb => ?_⟩
  · by_cases hj : j = i
    · subst hj
      rw [get_set_eq hi] at hc
      cases hc
      refine ⟨_, e1, ?_⟩
      simp only [if_pos]
      exact .ow ho r n f h.knone h.ksome
    · rw [get_set_ne (Ne.symm hj)] at hc
      obtain ⟨w, e2, ok⟩ := S.cel j c hc
      refine ⟨w, e2, ?_⟩
      simp only [if_neg hj]
      have na : ∀ b ∈ ns j, b ≠ a := fun b hb q => h.exc j hj (q ▸ hb)
      generalize ns j = m at ok na ⊢
      cases ok with
      | sh r f => exact .sh (r.frame ex na) f
      | ow h1 r n f g hk => exact .ow (ex.keep _ _ (na _ List.mem_cons_self) h1) (r.frame ex fun b hb => na b (List.mem_cons_of_mem _ hb)) n f g hk
      | tr r n f g => exact .tr (r.frame ex na) n f g
  · by_cases hj' : j = i
    · subst hj'
      exact absurd (get_set_eq hi) (hj _)
    · simp only [if_neg hj']
      refine S.emp j fun c hc => hj c ?_
      rw [get_set_ne (Ne.symm hj')]
      exact hc
  · rcases ownE ow with ⟨rfl, rfl⟩ | ⟨hj, ow'⟩
    · simp only [if_neg hjm]
      exact h.exc m hjm
    · by_cases hm' : m = i
      · subst hm'
        simp only [if_pos]
        intro hb
        rcases List.mem_cons.mp hb with q | q
        · exact h.exc j hj (q ▸ ow'.mem)
        · exact o j b ow' q
      · simp only [if_neg hm']
        exact S.exc j m b ow' hjm
  · rcases ownE ow with ⟨rfl, rfl⟩ | ⟨hj, ow'⟩
    · exact h.nF
    · exact S.frz j b ow'
  · have hba : b ≠ a := fun q => by
      subst q
      rcases h.inM with z | z
      · rw [hb] at z; cases z
      · exact hm z
    exact kp b ob hba (S.ent b ob hb hm)
  · by_cases q : b = a
    · subst q; exact ⟨_, ho⟩
    · obtain ⟨xs, z⟩ := (S.mls b hb).2
      exact ⟨xs, kp b _ q z⟩
  · by_cases q : b = a
    · subst q; exact ⟨_, ho⟩
    · obtain ⟨x, z⟩ := S.fdm b hb
      exact ⟨x, kp b _ q z⟩
  · by_cases hj : j = i
    · simp only [if_pos hj] at hb
      exact (List.mem_cons.mp hb).elim (fun z => z ▸ h.nZ) (y b)
    · simp only [if_neg hj] at hb
      exact S.hid j b hb
  · by_cases q : b = a
    · subst q; exact ⟨_, ho⟩
    · obtain ⟨x, z⟩ := S.zdm b hb
      exact ⟨x, kp b _ q z⟩
  · rcases ownE ow with ⟨rfl, rfl⟩ | ⟨hj, ow'⟩
    · exact ow0
    · exact ow'
  · by_cases hj : j = i
    · simp only [if_pos hj] at hb
      exact (List.mem_cons.mp hb).elim .inl fun z => .inr (.inl z)
    · simp only [if_neg hj] at hb
      exact .inr (.inr hb)
theorem SR.write (S : SR K M Z H0 F ns H σ ρ) {i : Nat} {k : Option Nat} {fr gr : Bool} {ds es : List D} {a : Addr} {vs ws : List V} {tl ul : List Addr} (e : ρ[i]? = some (some (.ow k fr ds))) (e1 : σ[i]? = some (some (.ref a)))
    (h : Head K M Z H0 H F ns ρ i k fr ds a vs tl) (r : RepL K H ws es ul) (n : a ∉ ul) (f : gr = true → ∀ b ∈ a :: ul, H0 b = none) (o : ∀ j b, Own ρ ns j b → b ∉ ul) (y : ∀ b ∈ ul, ¬ Z b) :
    ∃ ns', SR K M Z H0 F ns' (upd H a (.lst ws)) σ (ρ.set i (some (.ow k gr es))) ∧ ∀ j b, Own (ρ.set i (some (.ow k gr es))) ns' j b → Own ρ ns j b :=
  have ex : Ext (fun b => b ≠ a) H (upd H a (.lst ws)) := ext_write h.obj fun q => q rfl
  let ⟨ns', S', o', _⟩ := S.writeG e e1 h ex upd_same (r.frame ex fun b hb q => n (q ▸ hb)) n f o y
  ⟨ns', S', o'⟩
theorem dom_set {i : Nat} {c c' : Cel} (e : ρ[i]? = some (some c)) : Dom ρ (ρ.set i (some c')) := fun j d hd => by
  have hi : i < ρ.length := (List.getElem?_eq_some_iff.mp e).1
  by_cases hj : j = i
  · subst hj; exact ⟨_, get_set_eq hi⟩
  · exact ⟨d, by rw [get_set_ne (Ne.symm hj)]; exact hd⟩

/-! ### methods of the list in a slot -/
def pAppend (i : Nat) (p : PX) : PX := fun ρ P => match ρ[i]? with
  | some (some (.ow _ _ _)) => p ρ fun y ρ1 => match (put ρ1 y)[i]?, res (put ρ1 y) y with
    | some (some (.ow k fr ds)), some d => ds.length < sizeLine ∧ P (.v true .non) ((put ρ1 y).set i (some (.ow k (fr && resF (put ρ1 y) y) (ds ++ [d]))))
    | _, _ => False
  | _ => False
theorem tyV_list {a : Addr} {vs : List V} (h : H a = some (.lst vs)) : tyV K "list" (.ref a) H := .inl ⟨rfl, _, .of h⟩
theorem sim_append {i : Nat} {t : TE} {p : PX} (h : Sim K t p) : Sim K (tBM K "list" rAppend (tVar i) (tCons t tNil)) (pAppend i p) := fun M Z H0 F ns H σ ρ P Q S hp kk => by
  unfold pAppend at hp
  split at hp
  · rename_i _ _ _ e0
    obtain ⟨a, vs0, tl0, e1, h0⟩ := S.head e0
    refine ⟨_, e1, tyV_list h0.obj, h M Z H0 F ns H σ ρ _ _ S hp fun y v H1 ns1 ρ1 S1 x1 d1 vy q => ?_⟩
    split at q
    · rename_i k fr ds d e2 hd
      have S2 := put_sr S1 y
      obtain ⟨a', vs, tl, e1', hh⟩ := S2.head e2
      rw [e1] at e1'; cases e1'
      obtain ⟨ms, r, f, o, y'⟩ := (vy.move (put_dom ρ1 y) fun _ _ => put_own (x := y)).any S2 put_away hd
      have I : Items K Z H0 H1 ns1 (put ρ1 y) (fr && resF (put ρ1 y) y) (vs ++ [v]) (ds ++ [d]) (tl ++ ms) := hh.items.append ⟨RepL.one r, f, o, y'⟩
      have ow : Own (put ρ1 y) ns1 i a := .inl ⟨_, _, _, e2, by rw [hh.nsi]; rfl⟩
      obtain ⟨ns', S3, _⟩ := S2.write e2 e1 hh I.rep (fun hm => (List.mem_append.mp hm).elim hh.out (o i a ow)) (fun z b hb => (List.mem_cons.mp hb).elim (fun q => by rw [q]; exact hh.fre (Bool.and_eq_true_iff.mp z).1 a List.mem_cons_self) (I.fre z b)) (fun j b ob => I.own j b ob) I.hid
      exact ⟨a, vs, v, rfl, rfl, hh.obj, by rw [hh.rep.length]; exact q.1, kk _ _ _ ns' _ S3 (x1.trans (ext_write hh.obj hh.nF)) ((d1.trans (put_dom ρ1 y)).trans (dom_set e2)) .non q.2⟩
    · exact q.elim
  · exact hp.elim
def pPop (i : Nat) : PX := fun ρ P => match ρ[i]? with
  | some (some (.ow k fr ds)) => ∃ d, ds[ds.length - 1]? = some d ∧ P (.v fr d) (ρ.set i (some (.ow k fr ds.dropLast)))
  | _ => False
theorem sim_pop {i : Nat} : Sim K (tBM0 K "list" rPop (tVar i)) (pPop i) := fun M Z H0 F ns H σ ρ P Q S hp kk => by
  unfold pPop at hp
  split at hp
  · rename_i k fr ds e
    obtain ⟨d, hd, q⟩ := hp
    obtain ⟨a, vs, tl, e1, hh⟩ := S.head e
    obtain ⟨v, ms, hv, r, hm⟩ := hh.rep.get hd
    obtain ⟨ul, r2, hu⟩ := hh.rep.dropLast
    obtain ⟨ns', S3, oE⟩ := S.write e e1 hh r2 (fun z => hh.out (hu a z)) (fun z b hb => hh.fre z b ((List.mem_cons.mp hb).elim (fun q => by rw [q]; exact List.mem_cons_self) fun q => List.mem_cons_of_mem _ (hu b q))) (fun j b ob hb => hh.items.own j b ob (hu b hb)) fun b hb => hh.items.hid b (hu b hb)
    refine ⟨_, e1, tyV_list hh.obj, a, vs, v, rfl, rfl, hh.obj, by rw [hh.rep.length]; exact hv, ?_⟩
    refine kk _ _ _ ns' _ S3 (ext_write hh.obj hh.nF) (dom_set e) (.v (r.frame (ext_write (F := fun b => b ≠ a) hh.obj fun q => q rfl) fun b hb q => hh.out (q ▸ hm b hb)) (fun z b hb => hh.items.fre z b (hm b hb)) (fun j b ob hb => hh.items.own j b (oE j b ob) (hm b hb)) fun b hb => hh.items.hid b (hm b hb)) q
  · exact hp.elim
/-- x[j] = e of an owned list -/
def gSet (i : Nat) (p : PX) : PG' := fun x ρ P => (match ρ[i]? with
  | some (some (.ow _ _ _)) => match x with
    | .v fx d => p ρ fun y ρ1 => match ρ1[i]?, res ρ1 y with
      | some (some (.ow k fr ds)), some (.int z) => ∃ j, ixN ds.length z = some j ∧ P (ρ1.set i (some (.ow k (fr && fx) (ds.set j d))))
      | _, _ => False
    | _ => False
  | _ => False)
theorem simG_set {i : Nat} {t : TE} {p : PX} (h : Sim K t p) : SimG K (gSub (tVar i) t rSetL) (gSet i p) := fun M Z H0 F ns H σ ρ v x P Q S vx hp kk => by
  unfold gSet at hp
  split at hp
  · rename_i _ _ _ e0
    obtain ⟨a, vs0, tl0, e1, h0⟩ := S.head e0
    split at hp
    · rename_i fx d
      cases vx with
      | @v _ _ _ ms r f o y' =>
      refine ⟨_, e1, h M Z H0 _ ns H σ ρ _ _ (S.more (G := fun b => b ∈ ms) (fun j b ow hm => o j b ow hm) fun b hb => let ⟨z, e, _⟩ := r.dom b hb; ⟨z, e⟩) hp fun y u H1 ns1 ρ1 S1 x1 d1 vy q => ?_⟩
      split at q
      · rename_i k fr ds z e2 hy
        obtain ⟨j, hj, q⟩ := q
        obtain ⟨a', vs, tl, e1', hh⟩ := S1.head e2
        rw [e1] at e1'; cases e1'
        have r1 := r.frame x1 fun b hb => .inr hb
        obtain ⟨ul, r2, hu⟩ := RepL.set r1 hh.rep j
        have nam : a ∉ ms := fun hm => hh.nF (.inr hm)
        have own2 : ∀ j b, Own ρ1 ns1 j b → b ∉ ms := fun j b ow hm => S1.frz j b ow (.inr hm)
        obtain ⟨ns', S3, _⟩ := S1.write e2 e1 hh r2 (fun z => (hu a z).elim hh.out nam) (gr := fr && fx) (fun z b hb => (List.mem_cons.mp hb).elim (fun q => by rw [q]; exact hh.fre (Bool.and_eq_true_iff.mp z).1 a List.mem_cons_self) fun q => (hu b q).elim (fun q => hh.items.fre (Bool.and_eq_true_iff.mp z).1 b q) fun q => f (Bool.and_eq_true_iff.mp z).2 b q)
          (fun j b ow hb => (hu b hb).elim (hh.items.own j b ow) (own2 j b ow)) fun b hb => (hu b hb).elim (hh.items.hid b) (y' b)
        refine ⟨a, vs, z, j, rfl, vy.intV S1 hy, hh.obj, by rw [hh.rep.length]; exact hj, ?_⟩
        exact kk σ _ ns' _ (S3.weak fun b h => .inl h) ((x1.trans (ext_write hh.obj hh.nF)).weak fun b h => .inl h) q
      · exact q.elim
    · exact hp.elim
  · exact hp.elim
end
end Qq

namespace Qq
open PySem PySem.Spec PyProof.Rows L2

mutual
/-- nothing in it may change -/
def imm : D → Bool
  | .tup ds => imms ds
  | .lst _ => false
  | .lsr _ => false
  | .obj _ _ _ _ => false
  | .dic _ _ => false
  | .exn _ _ _ => false
  | _ => true
def imms : List D → Bool
  | [] => true
  | d :: ds => imm d && imms ds
end
section
variable {K : PySem.W.Frag} {M : List Addr} {Z : Addr → Prop} {H0 H H' : Hp} {F G : Addr → Prop} {ns : Nat → List Addr} {σ : L2.St} {ρ : Sto}
mutual
theorem Rep.imm : ∀ {v : V} {d : D} {ms : List Addr}, Rep K H v d ms → imm d = true → ms = []
  | _, _, _, .non, _ => rfl
  | _, _, _, .bl _, _ => rfl
  | _, _, _, .int _, _ => rfl
  | _, _, _, .ty _, _ => rfl
  | _, _, _, .cls _, _ => rfl
  | _, _, _, .str _, _ => rfl
  | _, _, _, .tup _ r, e => RepL.imm r (by rw [Qq.imm] at e; exact e)
  | _, _, _, .lst _ _, e => by simp [Qq.imm] at e
  | _, _, _, .lstR _ _, e => by simp [Qq.imm] at e
  | _, _, _, .obj _ _ _ _, e => by simp [Qq.imm] at e
  | _, _, _, .dic _ _ _, e => by simp [Qq.imm] at e
  | _, _, _, .exn0 _, e => by simp [Qq.imm] at e
  | _, _, _, .exn1 _ _ _ _, e => by simp [Qq.imm] at e
theorem RepL.imm : ∀ {vs : List V} {ds : List D} {ms : List Addr}, RepL K H vs ds ms → imms ds = true → ms = []
  | _, _, _, .nil, _ => rfl
  | _, _, _, .cons (d := d) (ds := ds) r t q, e => by
    have e' : Qq.imm d = true ∧ imms ds = true := by simpa [imms] using e
    rw [q, Rep.imm r e'.1, RepL.imm t e'.2]
    rfl
end

/-! ### a def's promise -/
/-- what a def is worth: arguments; what it gives and what the changed argument holds then -/
abbrev Spec' := List D → (Val → List D → Prop) → Prop
/-- what is given back: all its changeable objects are new -/
inductive RetOk (K : PySem.W.Frag) (H H' : Hp) : V → Val → Prop
  | v {v : V} {d : D} {ms : List Addr} : Rep K H' v d ms → (∀ b ∈ ms, H b = none) → RetOk K H H' v (.v true d)
  | f {a : Addr} {vs : List V} {ds : List D} {tl : List Addr} : H' a = some (.lst vs) → RepL K H' vs ds tl → a ∉ tl → H a = none → (∀ b ∈ tl, H b = none) → RetOk K H H' (.ref a) (.f true ds)
structure ArgsOk (K : PySem.W.Frag) (H : Hp) (mu : Option Nat) (vs : List V) (ds : List D) (nss : Nat → List Addr) : Prop where
  len : vs.length = ds.length
  rep : ∀ i d, ds[i]? = some d → ∃ v, vs[i]? = some v ∧ Rep K H v d (nss i)
  chg : ∀ m, mu = some m → ∃ a us xs, vs[m]? = some (.ref a) ∧ ds[m]? = some (.lst xs) ∧ H a = some (.lst us) ∧ RepL K H us xs [] ∧ nss m = [a] ∧ ∀ j, j ≠ m → a ∉ nss j
def spQ (K : PySem.W.Frag) (n : Nat) (mu : Option Nat) (S : Spec') : Sp := fun vs H Q _ => vs.length = n ∧ ∃ (ds : List D) (nss : Nat → List Addr) (P : Val → List D → Prop), ArgsOk K H mu vs ds nss ∧ S ds P ∧
  ∀ (v : V) (x : Val) (cs : List D) (H' : Hp), RetOk K H H' v x → (∀ b o, H b = some o → (∀ m, mu = some m → vs[m]? ≠ some (.ref b)) → H' b = some o) →
    (∀ m a, mu = some m → vs[m]? = some (.ref a) → ∃ us, H' a = some (.lst us) ∧ RepL K H' us cs []) → P x cs → Q v H'

/-! the body -/
def cellOf (mu : Option Nat) (i : Nat) (d : D) : Cel := match d with
  | .lst xs => if mu = some i then .ow (some 0) false xs else .sh false (.lst xs)
  | d => .sh false d
def cellsFrom' (mu : Option Nat) : Nat → List D → Sto
  | _, [] => []
  | i, d :: ds => some (cellOf mu i d) :: cellsFrom' mu (i + 1) ds
/-- the slots at the entry: the arguments, then nothing -/
def entry (mu : Option Nat) (n : Nat) (ds : List D) : Sto := cellsFrom' mu 0 ds ++ List.replicate n none
theorem cellsFrom'_len (mu : Option Nat) : ∀ (i : Nat) (ds : List D), (cellsFrom' mu i ds).length = ds.length
  | _, [] => rfl
  | i, d :: ds => by simp [cellsFrom', cellsFrom'_len mu (i + 1) ds]
theorem cellsFrom'_get (mu : Option Nat) : ∀ (i : Nat) (ds : List D) (j : Nat), (cellsFrom' mu i ds)[j]? = (ds[j]?).map fun d => some (cellOf mu (i + j) d)
  | _, [], j => by simp [cellsFrom']
  | i, d :: ds, 0 => by simp [cellsFrom']
  | i, d :: ds, j + 1 => by
    have := cellsFrom'_get mu (i + 1) ds j
    simp only [cellsFrom', List.getElem?_cons_succ, this]
    rw [show i + 1 + j = i + (j + 1) by omega]
theorem entry_get {mu : Option Nat} {n : Nat} {ds : List D} {j : Nat} {c : Cel} (h : (entry mu n ds)[j]? = some (some c)) : ∃ d, ds[j]? = some d ∧ c = cellOf mu j d := by
  unfold entry at h
  by_cases hj : j < ds.length
  · rw [List.getElem?_append_left (by rw [cellsFrom'_len]; exact hj), cellsFrom'_get] at h
    rw [List.getElem?_eq_getElem hj] at h ⊢
    simp only [Option.map_some, Nat.zero_add] at h
    exact ⟨_, rfl, (Option.some.inj (Option.some.inj h)).symm⟩
  · rw [List.getElem?_append_right (by rw [cellsFrom'_len]; omega), List.getElem?_replicate] at h
    split at h <;> cases h
theorem entry_get' {mu : Option Nat} {n : Nat} {ds : List D} {j : Nat} {d : D} (h : ds[j]? = some d) : (entry mu n ds)[j]? = some (some (cellOf mu j d)) := by
  have hj : j < ds.length := (List.getElem?_eq_some_iff.mp h).1
  unfold entry
  rw [List.getElem?_append_left (by rw [cellsFrom'_len]; exact hj), cellsFrom'_get, h]
  simp
/-- the changed argument's address -/
def muAt (mu : Option Nat) (vs : List V) : List Addr := match mu with
  | some m => match vs[m]? with
    | some (.ref a) => [a]
    | _ => []
  | none => []
theorem entry_sr {mu : Option Nat} {N : List Str} {vs : List V} {ds : List D} {nss : Nat → List Addr} (A : ArgsOk K H mu vs ds nss) (hN : vs.length ≤ N.length) :
    SR K (muAt mu vs) (fun _ => False) H (fun _ => False) (fun j => if j < ds.length then nss j else []) H (L2.start N vs) (entry mu (N.length - vs.length) ds) := by
  have hv : ∀ {j v}, vs[j]? = some v → (L2.start N vs)[j]? = some (some v) := fun {j v} h => by
    have hj : j < vs.length := (List.getElem?_eq_some_iff.mp h).1
    unfold L2.start
    rw [List.getElem?_append_left (by simpa using hj), List.getElem?_map, h]
    rfl
  have own : ∀ {j a}, Own (entry mu (N.length - vs.length) ds) (fun j => if j < ds.length then nss j else []) j a → mu = some j ∧ vs[j]? = some (.ref a) := fun {j a} ow => by
    have ow' : ∃ k f es, (entry mu (N.length - vs.length) ds)[j]? = some (some (.ow k f es)) ∧ ((if j < ds.length then nss j else []) : List Addr).head? = some a := by
      rcases ow with h | ⟨p, dd, e, _⟩
      · exact h
      · obtain ⟨d, hd, hc⟩ := entry_get e
        unfold cellOf at hc
        split at hc
        · split at hc <;> cases hc
        · cases hc
    obtain ⟨k, f, es, e, q⟩ := ow'
    obtain ⟨d, hd, hc⟩ := entry_get e
    have hj : j < ds.length := (List.getElem?_eq_some_iff.mp hd).1
    simp only [if_pos hj] at q
    unfold cellOf at hc
    split at hc
    · rename_i xs
      by_cases hm : mu = some j
      · obtain ⟨a', us, xs', h1, h2, h3, h4, h5⟩ := A.chg j hm
        obtain ⟨v, hv', r⟩ := A.rep j _ hd
        rw [h1] at hv'; cases hv'
        refine ⟨hm, ?_⟩
        rw [h5.1] at q
        have : a' = a := by simpa using q
        rw [← this]; exact h1
      · rw [if_neg hm] at hc; cases hc
    · cases hc
  refine ⟨?_, fun j c hc => ?_, fun j hj => ?_, fun j m a ow hjm => ?_, fun _ _ _ h => h, fun b o e _ => e, fun b hb => ?_, fun _ h => h.elim, fun _ _ _ h => h, fun _ h => h.elim⟩
  · simp only [L2.start, entry, List.length_append, List.length_map, List.length_replicate, cellsFrom'_len, A.len]
  · obtain ⟨d, hd, rfl⟩ := entry_get hc
    have hj : j < ds.length := (List.getElem?_eq_some_iff.mp hd).1
    obtain ⟨v, e, r⟩ := A.rep j d hd
    refine ⟨v, hv e, ?_⟩
    simp only [if_pos hj]
    unfold cellOf
    split
    · rename_i xs
      by_cases hm : mu = some j
      · rw [if_pos hm]
        obtain ⟨a, us, xs', h1, h2, h3, h4, h5⟩ := A.chg j hm
        rw [h1] at e; cases e
        rw [h2] at hd; cases hd
        rw [h5.1]
        exact .ow h3 h4 (fun z => nomatch z) (fun z => by cases z) (fun z => by cases z) fun n z => by
          cases z
          unfold muAt
          simp only [hm, h1]
          rfl
      · rw [if_neg hm]
        exact .sh r fun z => by cases z
    · exact .sh r fun z => by cases z
  · by_cases h : j < ds.length
    · exact absurd (entry_get' (List.getElem?_eq_getElem h)) (hj _)
    · simp only [if_neg h]
  · obtain ⟨hm, ha⟩ := own ow
    obtain ⟨a', us, xs', h1, h2, h3, h4, h5⟩ := A.chg j hm
    rw [h1] at ha; cases ha
    by_cases h : m < ds.length
    · simp only [if_pos h]
      exact h5.2 m hjm
    · simp only [if_neg h]
      intro z; cases z
  · unfold muAt at hb
    split at hb
    · rename_i m
      obtain ⟨a, us, xs, h1, _, h3, _⟩ := A.chg m rfl
      rw [h1] at hb
      simp only [List.mem_singleton] at hb
      subst hb
      exact ⟨⟨_, h3⟩, ⟨_, h3⟩⟩
    · cases hb

/-! the end of a body -/
def exitV (ρ : Sto) : Val → Option Val
  | .v fr d => if fr || imm d then some (.v true d) else none
  | .f fr ds => if fr || imms ds then some (.f true ds) else none
  | .s i => match ρ[i]? with
    | some (some (.sh fr d)) => if fr || imm d then some (.v true d) else none
    | some (some (.ow none fr ds)) => if fr || imms ds then some (.f true ds) else none
    | some (some (.tr p d)) => if p then none else some (.v true d)
    | _ => none
def exitC (mu : Option Nat) (ρ : Sto) : Option (List D) := match mu with
  | none => some []
  | some m => match ρ[m]? with
    | some (some (.ow (some 0) _ cs)) => if imms cs then some cs else none
    | _ => none
def fin (mu : Option Nat) (P : Val → List D → Prop) (x : Val) (ρ : Sto) : Prop := match exitV ρ x, exitC mu ρ with
  | some y, some cs => P y cs
  | _, _ => False
def ends (mu : Option Nat) (P : Val → List D → Prop) : PEn := { nx := fin mu P (.v true .non), rt := fin mu P }
theorem exitV_ok (S : SR K M Z H0 F ns H σ ρ) {v : V} {x y : Val} (vx : VOk K Z H0 F ns H σ ρ v x) (h : exitV ρ x = some y) : RetOk K H0 H v y := by
  cases x with
  | v fr d =>
    cases vx with
    | @v _ _ _ ms r f o y' =>
    simp only [exitV] at h
    split at h
    · rename_i c
      cases h
      refine .v r fun b hb => ?_
      rcases Bool.or_eq_true_iff.mp c with z | z
      · exact f z b hb
      · rw [r.imm z] at hb; cases hb
    · cases h
  | f fr ds =>
    cases vx with
    | @f a _ vs _ tl h1 r n f g i o z y' =>
    simp only [exitV] at h
    split at h
    · rename_i c
      cases h
      refine .f h1 r n g fun b hb => ?_
      rcases Bool.or_eq_true_iff.mp c with z | z
      · exact f z b hb
      · rw [r.imm z] at hb; cases hb
    · cases h
  | s i =>
    cases vx with
    | @s _ _ c h1 h2 =>
    simp only [exitV, h1] at h
    obtain ⟨w, e, ok⟩ := S.cel i c h1
    rw [h2] at e; cases e
    generalize ns i = m at ok
    cases ok with
    | @sh _ fr d _ r f =>
      simp only at h
      split at h
      · rename_i c
        cases h
        refine .v r fun b hb => ?_
        rcases Bool.or_eq_true_iff.mp c with z | z
        · exact f z b hb
        · rw [r.imm z] at hb; cases hb
      · cases h
    | @ow a k fr vs ds tl g1 r n f kn ks =>
      cases k with
      | some k => cases h
      | none =>
        simp only at h
        split at h
        · rename_i c
          cases h
          refine .f g1 r n (kn rfl) fun b hb => ?_
          rcases Bool.or_eq_true_iff.mp c with z | z
          · exact f z b (List.mem_cons_of_mem _ hb)
          · rw [r.imm z] at hb; cases hb
        · cases h
    | @tr _ p d _ r n f g =>
      cases p with
      | true => simp at h
      | false =>
        simp at h
        subst h
        exact .v r (f rfl)
/-- THE RULE for a def -/
theorem okQ {P : Program} {w : World} {mg : Str → Option Value} {base : Heap} {x qual : Str} {params : Arguments} {bd : List Stmt} {scope : Scope} {dvs : List V} {kws : List (Str × V)} {f : Addr} {fd : FuncData} {N ps : List Str} {k : Nat} {mu : Option Nat} {S : Spec'} {body : PS'}
    (Fn : FunD K x qual params bd scope dvs kws f fd) (sc : FnScope N ps scope)
    (der : ∀ (cdv : Value) (A : Around) (outer : List Env) (s : Shared) (H : Hp) (E : XK), Room k (A.deeper (envOfC qual scope s.heap.objs.size f cdv)) → ∃ t, PSs (cxOf CX0 P w K mg base N qual scope f cdv A outer s H E).nox bd t ∧ SimS K t body)
    (pur : ∀ ds Q, ds.length = ps.length → S ds Q → body (ends mu Q) (entry mu (N.length - ps.length) ds)) : FnOk P w K mg base CX0 (k + 1) f fd ps (spQ K ps.length mu S) := by
  refine Fn.ok sc (fun vs H Q E h => h.1) (fun cdv A outer s H vs Q E hr h => ?_)
  obtain ⟨hl, ds, nss, P', A', hS, hk⟩ := h
  obtain ⟨t, h1, h2⟩ := der cdv A outer s H E hr
  refine ⟨t, PSs.nox h1, ?_⟩
  have hN : vs.length ≤ N.length := by
    have := congrArg List.length sc.pre
    rw [List.length_take] at this
    omega
  have S0 := entry_sr A' hN
  have p0 := pur ds P' (A'.len.symm.trans hl) hS
  rw [← hl] at p0
  have cont : ∀ x v σ' H' ns' ρ', SR K (muAt mu vs) (fun _ => False) H (fun _ => False) ns' H' σ' ρ' → VOk K (fun _ => False) H (fun _ => False) ns' H' σ' ρ' v x → fin mu P' x ρ' → Q v H' := fun x v σ' H' ns' ρ' S' vx q => by
    unfold fin at q
    split at q
    · rename_i y cs hy hc
      refine hk v y cs H' (exitV_ok S' vx hy) (fun b o hb hm => S'.ent b o hb fun z => ?_) (fun m a hm ha => ?_) q
      · unfold muAt at z
        split at z
        · rename_i m
          split at z
          · rename_i a ha
            exact hm m rfl (by rw [ha]; simp at z; rw [z])
          · cases z
        · cases z
      · subst hm
        unfold exitC at hc
        simp only at hc
        split at hc
        · rename_i fr cs' he
          split at hc
          · rename_i hi
            cases hc
            obtain ⟨a', us, tl, _, hh⟩ := S'.head he
            have := hh.ksome 0 rfl
            unfold muAt at this
            simp only [ha] at this
            have e : a = a' := by simpa using this
            subst e
            have z := hh.rep
            rw [z.imm hi] at z
            exact ⟨us, hh.obj, z⟩
          · cases hc
        · cases hc
    · exact q.elim
  refine h2 _ _ H _ _ H _ _ (ends mu P') _ S0 p0 (fun σ' H' ns' ρ' S' _ q => cont _ _ σ' H' ns' ρ' S' .non q) (fun x v σ' H' ns' ρ' S' _ vx q => cont x v σ' H' ns' ρ' S' vx q) (fun _ _ _ _ _ _ q => q.elim) (fun _ _ _ _ _ _ q => q.elim)

/-! ### a call of a def -/
def others (i m : Nat) (xs : List Val) : Bool := (xs.eraseIdx m).all fun x => match x with
  | .s j => decide (j ≠ i)
  | _ => true
def Val.isS : Val → Bool
  | .s _ => true
  | _ => false
/-- none of the other arguments holds the new list -/
def othF (xs : List Val) (ds : List D) : Bool := (xs.zip ds).all fun p => p.1.isS || imm p.2
/-- the changed argument may be handed over -/
def muOk (mu : Option Nat) (ρ : Sto) (xs : List Val) (ds : List D) : Prop := match mu with
  | none => True
  | some m => match xs[m]? with
    | some (.s i) => match ρ[i]? with
      | some (some (.ow _ _ cs)) => imms cs = true ∧ others i m xs = true
      | _ => False
    | some (.f _ cs) => imms cs = true ∧ othF (xs.eraseIdx m) (ds.eraseIdx m) = true
    | _ => False
def muSet (mu : Option Nat) (ρ : Sto) (xs : List Val) (cs : List D) : Sto := match mu with
  | none => ρ
  | some m => match xs[m]? with
    | some (.s i) => match ρ[i]? with
      | some (some (.ow k fr _)) => ρ.set i (some (.ow k fr cs))
      | _ => ρ
    | _ => ρ
def pCall (n : Nat) (mu : Option Nat) (S : Spec') (p : PAs) : PX := fun ρ P => p ρ fun xs ρ1 => match resAll ρ1 xs with
  | some ds => ds.length = n ∧ muOk mu ρ1 xs ds ∧ S ds fun x cs => P x (muSet mu ρ1 xs cs)
  | none => False
theorem args_nodes (S : SR K M Z H0 F ns H σ ρ) : ∀ {xs : List Val} {vs : List V} {ds : List D}, Paired (VOk K Z H0 F ns H σ ρ) vs xs → resAll ρ xs = some ds →
    ∃ nl : List (List Addr), nl.length = ds.length ∧ vs.length = ds.length ∧ ∀ i d, ds[i]? = some d → ∃ v x, vs[i]? = some v ∧ xs[i]? = some x ∧ resT ρ x = some d ∧ VOk K Z H0 F ns H σ ρ v x ∧ Rep K H v d (nl.getD i []) ∧ ∀ j a, Own ρ ns j a → a ∈ nl.getD i [] → x = .s j
  | [], _, ds, .nil, h => by
    cases h
    exact ⟨[], rfl, rfl, fun i d h => by simp at h⟩
  | x :: xs, v :: vs, ds, .cons vx t, h => by
    unfold resAll at h
    split at h
    · rename_i d ds' h1 h2
      cases h
      obtain ⟨nl, l1, l2, k⟩ := args_nodes S t h2
      have one : ∃ ms, Rep K H v d ms ∧ ∀ j a, Own ρ ns j a → a ∈ ms → x = .s j := by
        by_cases aw : Away (ns := ns) ρ x
        · obtain ⟨ms, r, _, o, _⟩ := vx.anyT S aw h1
          exact ⟨ms, r, fun j a ow hm => absurd hm (o j a ow)⟩
        · cases x with
          | v _ _ => exact absurd (fun i e => nomatch e) aw
          | f _ _ => exact absurd (fun i e => nomatch e) aw
          | s i =>
            cases vx with
            | @s _ _ c g1 g2 =>
            obtain ⟨w, e, r, f⟩ := S.cell g1
            rw [g2] at e; cases e
            simp only [resT, g1] at h1
            cases h1
            refine ⟨_, r, fun j a ow hm => ?_⟩
            by_cases hj : j = i
            · rw [hj]
            · exact absurd hm (S.exc j i a ow (Ne.symm hj))
      obtain ⟨ms, r, o⟩ := one
      refine ⟨ms :: nl, by simp [l1], by simp [l2], fun i d' hi => ?_⟩
      cases i with
      | zero =>
        simp at hi; subst hi
        exact ⟨v, x, rfl, rfl, h1, vx, r, o⟩
      | succ i =>
        obtain ⟨v', x', a1, a2, a3, a4, a5, a6⟩ := k i d' (by simpa using hi)
        exact ⟨v', x', by simpa using a1, by simpa using a2, a3, a4, by simpa using a5, fun j a ow hm => a6 j a ow (by simpa using hm)⟩
    · cases h
/-- a temporary list has changed -/
theorem SR.forget (S : SR K M Z H0 F ns H σ ρ) {a : Addr} (ex : Ext (fun b => b ≠ a) H H') (hn : ∀ i, a ∉ ns i) (h0 : H0 a = none) (nF : ¬ F a) (nZ : ¬ Z a) : SR K M Z H0 F ns H' σ ρ := by
  have kp : ∀ b x, b ≠ a → H b = some x → H' b = some x := fun b x q z => ex.keep b x q z
  have d0 : ∀ b o, H0 b = some o → b ≠ a := fun b o e q => by rw [q, h0] at e; cases e
  refine ⟨S.len, fun i c h => ?_, S.emp, S.exc, S.frz, fun b o h m => kp b o (d0 b o h) (S.ent b o h m), fun b hb => ⟨(S.mls b hb).1, ?_⟩, fun b f => ?_, S.hid, fun b f => ?_⟩
  · obtain ⟨v, e1, ok⟩ := S.cel i c h
    refine ⟨v, e1, ?_⟩
    have na : ∀ b ∈ ns i, b ≠ a := fun b hb q => hn i (q ▸ hb)
    generalize ns i = m at ok na ⊢
    cases ok with
    | sh r f => exact .sh (r.frame ex na) f
    | ow h1 r n f g hk => exact .ow (ex.keep _ _ (na _ List.mem_cons_self) h1) (r.frame ex fun b hb => na b (List.mem_cons_of_mem _ hb)) n f g hk
    | tr r n f g => exact .tr (r.frame ex na) n f g
  · obtain ⟨xs, z⟩ := (S.mls b hb).1
    obtain ⟨ys, z'⟩ := (S.mls b hb).2
    exact ⟨ys, kp b _ (d0 b _ z) z'⟩
  · obtain ⟨x, z⟩ := S.fdm b f
    exact ⟨x, kp b x (fun q => nF (q ▸ f)) z⟩
  · obtain ⟨x, z⟩ := S.zdm b f
    exact ⟨x, kp b x (fun q => nZ (q ▸ f)) z⟩
theorem retV {ns' : Nat → List Addr} {ρ' : Sto} (S : SR K M Z H0 F ns H σ ρ) {v : V} {x : Val} (r : RetOk K H H' v x) (hn : ∀ i b, b ∈ ns' i → ∃ o, H b = some o) : VOk K Z H0 F ns' H' σ ρ' v x := by
  have no : ∀ b, H b = none → ∀ i, b ∉ ns' i := fun b hb i hm => by
    obtain ⟨o, e⟩ := hn i b hm
    rw [hb] at e; cases e
  cases r with
  | v r f =>
    refine .v r (fun _ b hb => S.fresh (f b hb)) (fun i a ow hm => ?_) fun b hb q => ?_
    · exact no a (f a hm) i ow.mem
    · obtain ⟨o, e⟩ := S.zdm _ q
      rw [f b hb] at e; cases e
  | f h1 r n g f =>
    refine .f h1 r n (fun _ b hb => S.fresh (f b hb)) (S.fresh g) (no _ g) (fun i a ow hm => ?_) (fun q => ?_) fun b hb q => ?_
    · exact no a (f a hm) i ow.mem
    · obtain ⟨o, e⟩ := S.fdm _ q
      rw [g] at e; cases e
    · obtain ⟨o, e⟩ := S.zdm _ q
      rcases List.mem_cons.mp hb with z | z
      · rw [z, g] at e; cases e
      · rw [f b z] at e; cases e
theorem others_at {i m : Nat} {xs : List Val} (h : others i m xs = true) {j : Nat} (hj : j ≠ m) : xs[j]? ≠ some (.s i) := fun e => by
  unfold others at h
  rw [List.all_eq_true] at h
  have : Val.s i ∈ xs.eraseIdx m := by
    rw [List.mem_eraseIdx_iff_getElem?]
    exact ⟨j, hj, e⟩
  have := h _ this
  simp at this
def kCallQ (n : Nat) (mu : Option Nat) (S : Spec') : KC := fun xs ρ1 P => match resAll ρ1 xs with
  | some ds => ds.length = n ∧ muOk mu ρ1 xs ds ∧ S ds fun x cs => P x (muSet mu ρ1 xs cs)
  | none => False
theorem callSim_spQ {n : Nat} {mu : Option Nat} {S : Spec'} : CallSim K (fun vs H Q => spQ K n mu S (vs ++ []) H Q E0) (kCallQ n mu S) := fun M Z H0 F ns1 H1 σ ρ1 P Q xs vs S1 vxs q kk => by
  have e1 : Ext F H1 H1 := .refl H1
  have d1 : Dom ρ1 ρ1 := .refl ρ1
  unfold kCallQ at q
  show spQ K n mu S (vs ++ []) H1 Q E0
  split at q
  · rename_i ds e
    obtain ⟨hn, hm, hS⟩ := q
    obtain ⟨nl, l1, l2, an⟩ := args_nodes S1 vxs e
    rw [List.append_nil]
    cases mu with
    | none =>
      refine ⟨l2.trans hn, ds, fun j => nl.getD j [], _, ⟨l2, fun i d hd => let ⟨v, x, a1, _, _, _, a5, _⟩ := an i d hd; ⟨v, a1, a5⟩, fun m z => nomatch z⟩, hS, fun v x cs H' ro keep _ hP => ?_⟩
      have sm : Same H1 H' := fun b o z => keep b o z fun m y => nomatch y
      exact kk x v H' ns1 ρ1 (S1.grow sm) (e1.trans (.same sm)) d1 (retV S1 ro fun i b hb => let ⟨o, e, _⟩ := S1.sub i b hb; ⟨o, e⟩) hP
    | some m =>
      simp only [muOk] at hm
      simp only [muSet] at hS
      have exOf : ∀ {a : Addr} {H' : Hp}, (∀ b o, H1 b = some o → b ≠ a → H' b = some o) → (∃ us, H' a = some (.lst us)) → (∃ us, H1 a = some (.lst us)) → Ext (fun b => b ≠ a) H1 H' := fun {a H'} kp ⟨us, ha⟩ ⟨us', ha'⟩ => by
        refine ⟨fun b o q z => kp b o z q, fun b xs z => kp b _ z fun q => (by rw [q, ha'] at z; cases z), fun b o u z => kp b _ z fun q => (by rw [q, ha'] at z; cases z), fun b z => ?_⟩
        cases y : H1 b with
        | none => rfl
        | some o =>
          by_cases q : b = a
          · rw [q, ha] at z; cases z
          · rw [kp b o y q] at z; cases z
      split at hm
      · rename_i i hx
        simp only [hx] at hS
        split at hm
        · rename_i k fr cs0 he
          simp only [he] at hS
          obtain ⟨hi, ho⟩ := hm
          obtain ⟨a, us, tl, es, hh⟩ := S1.head he
          have tn : tl = [] := hh.rep.imm hi
          subst tn
          have hmd : ∃ d, ds[m]? = some d := by
            have : m < xs.length := (List.getElem?_eq_some_iff.mp hx).1
            have lx : xs.length = vs.length := by
              have : ∀ {vs : List V} {xs : List Val}, Paired (VOk K Z H0 F ns1 H1 σ ρ1) vs xs → vs.length = xs.length := fun r => by
                induction r with
                | nil => rfl
                | cons _ _ ih => simp [ih]
              exact (this vxs).symm
            exact ⟨_, List.getElem?_eq_getElem (by omega)⟩
          obtain ⟨d, hd⟩ := hmd
          obtain ⟨v0, x0, a1, a2, a3, a4, a5, _⟩ := an m d hd
          rw [hx] at a2; cases a2
          simp only [resT, he, Cel.dat] at a3
          cases a3
          cases a4 with
          | @s _ _ c g1 g2 =>
          rw [es] at g2; cases g2
          have ow : Own ρ1 ns1 i a := .inl ⟨_, _, _, he, by rw [hh.nsi]; rfl⟩
          refine ⟨l2.trans hn, ds, fun j => if j = m then [a] else nl.getD j [], _, ⟨l2, fun j d' hd' => ?_, fun m' z => ?_⟩, hS, fun v x cs H' ro keep chg hP => ?_⟩
          · obtain ⟨v, x, b1, _, _, _, b5, _⟩ := an j d' hd'
            by_cases hj : j = m
            · subst hj
              rw [a1] at b1; cases b1
              have e3 := hd.symm.trans hd'
              cases e3
              exact ⟨_, a1, by simp only [if_pos]; exact .lst hh.obj hh.rep⟩
            · exact ⟨v, b1, by simp only [if_neg hj]; exact b5⟩
          · cases z
            refine ⟨a, us, cs0, a1, hd, hh.obj, hh.rep, by simp only [if_pos], fun j hj => ?_⟩
            simp only [if_neg hj]
            intro hm
            by_cases hjl : j < ds.length
            · obtain ⟨_, x, _, b2, _, _, _, b6⟩ := an j _ (List.getElem?_eq_getElem hjl)
              rw [b6 i a ow hm] at b2
              exact others_at ho hj b2
            · rw [List.getD_eq_getElem?_getD, List.getElem?_eq_none (by omega)] at hm
              cases hm
          · obtain ⟨us', ha', r'⟩ := chg m a rfl a1
            have ex : Ext (fun b => b ≠ a) H1 H' := exOf (fun b o z q => keep b o z fun m' y => by cases y; rw [a1]; exact fun w => q (V.ref.inj (Option.some.inj w)).symm) ⟨us', ha'⟩ ⟨us, hh.obj⟩
            obtain ⟨ns3, S3, oE, nE⟩ := S1.writeG (gr := fr) he es hh ex ha' r' (fun z => nomatch z) (fun z b hb => hh.fre z b hb) (fun j b _ z => nomatch z) (fun _ z => nomatch z)
            refine kk x v H' ns3 _ S3 (e1.trans (ex.weak fun b f q => hh.nF (q ▸ f))) (d1.trans (dom_set he)) (retV S1 ro fun j b hb => ?_) hP
            rcases nE j b hb with z | z | z
            · exact ⟨_, z ▸ hh.obj⟩
            · cases z
            · obtain ⟨o, e, _⟩ := S1.sub j b z; exact ⟨o, e⟩
        · exact hm.elim
      · rename_i fr cs0 hx
        simp only [hx] at hS
        obtain ⟨hi, ho⟩ := hm
        have lx : vs.length = xs.length := by
          have : ∀ {vs : List V} {xs : List Val}, Paired (VOk K Z H0 F ns1 H1 σ ρ1) vs xs → vs.length = xs.length := fun r => by
            induction r with
            | nil => rfl
            | cons _ _ ih => simp [ih]
          exact this vxs
        have hmx : m < xs.length := (List.getElem?_eq_some_iff.mp hx).1
        have hd : ds[m]? = some ds[m] := List.getElem?_eq_getElem (by omega)
        obtain ⟨v0, x0, a1, a2, a3, a4, a5, _⟩ := an m _ hd
        rw [hx] at a2; cases a2
        have ed : ds[m] = .lst cs0 := (Option.some.inj a3).symm
        rw [ed] at hd
        cases a4 with
        | @f a _ us _ tl g1 r n f g ex0 o nF nZ' =>
        have tn : tl = [] := r.imm hi
        subst tn
        let nn : Nat → List Addr := fun j => match xs[j]? with
          | some (.s i) => ns1 i
          | _ => []
        refine ⟨l2.trans hn, ds, fun j => if j = m then [a] else nn j, _, ⟨l2, fun j d hd' => ?_, fun m' z => ?_⟩, hS, fun v x cs H' ro keep chg hP => ?_⟩
        · obtain ⟨v, x, b1, b2, b3, b4, b5, _⟩ := an j d hd'
          by_cases hj : j = m
          · subst hj
            rw [a1] at b1; cases b1
            rw [hd] at hd'; cases hd'
            exact ⟨_, a1, by simp only [if_pos]; exact .lst g1 r⟩
          · refine ⟨v, b1, ?_⟩
            simp only [if_neg hj]
            have e1 : x.isS = true ∨ imm d = true := by
              unfold othF at ho
              rw [List.all_eq_true] at ho
              have hm : (x, d) ∈ (xs.eraseIdx m).zip (ds.eraseIdx m) := by
                have lxd : xs.length = ds.length := by omega
                by_cases hlt : j < m
                · refine List.mem_iff_getElem?.mpr ⟨j, ?_⟩
                  rw [List.getElem?_zip_eq_some]
                  rw [List.getElem?_eraseIdx, List.getElem?_eraseIdx, if_pos hlt, if_pos hlt]
                  exact ⟨b2, hd'⟩
                · refine List.mem_iff_getElem?.mpr ⟨j - 1, ?_⟩
                  rw [List.getElem?_zip_eq_some]
                  rw [List.getElem?_eraseIdx, List.getElem?_eraseIdx, if_neg (by omega), if_neg (by omega)]
                  have : j - 1 + 1 = j := by omega
                  rw [this]
                  exact ⟨b2, hd'⟩
              have := ho _ hm
              simpa using this
            cases x with
            | s i =>
              have en : nn j = ns1 i := by simp only [nn, b2]
              rw [en]
              cases b4 with
              | @s _ _ c g1 g2 =>
              obtain ⟨w, e, r', _⟩ := S1.cell g1
              rw [g2] at e; cases e
              simp only [resT, g1] at b3
              cases b3
              exact r'
            | v fr d0 =>
              have en : nn j = [] := by simp only [nn, b2]
              rw [en]
              have hi' : imm d = true := by simpa [Val.isS] using e1
              have := b5.imm hi'
              rw [this] at b5
              exact b5
            | f fr d0 =>
              have en : nn j = [] := by simp only [nn, b2]
              rw [en]
              have hi' : imm d = true := by simpa [Val.isS] using e1
              have := b5.imm hi'
              rw [this] at b5
              exact b5
        · cases z
          refine ⟨a, us, cs0, a1, hd, g1, r, by simp only [if_pos], fun j hj => ?_⟩
          simp only [if_neg hj]
          simp only [nn]
          split
          · exact ex0 _
          · intro z; cases z
        · obtain ⟨us', ha', r'⟩ := chg m a rfl a1
          have ex : Ext (fun b => b ≠ a) H1 H' := exOf (fun b o z q => keep b o z fun m' y => by cases y; rw [a1]; exact fun w => q (V.ref.inj (Option.some.inj w)).symm) ⟨us', ha'⟩ ⟨us, g1⟩
          exact kk x v H' ns1 _ (S1.forget ex ex0 g nF (nZ' a List.mem_cons_self)) (e1.trans (ex.weak fun b f q => nF (q ▸ f))) d1 (retV S1 ro fun i b hb => let ⟨o, e, _⟩ := S1.sub i b hb; ⟨o, e⟩) hP
      · exact hm.elim
  · exact q.elim
theorem sim_call {n : Nat} {mu : Option Nat} {S : Spec'} {t : TA} {p : PAs} (h : SimA K t p) : Sim K (tCall (spQ K n mu S) [] E0 t) (pCall n mu S p) := sim_cb callSim_spQ h
end
end Qq

namespace Qq
open PySem PySem.Spec PyProof.Rows L2
section
variable {K : PySem.W.Frag} {M : List Addr} {Z : Addr → Prop} {H0 H H' : Hp} {F G : Addr → Prop} {ns : Nat → List Addr} {σ : L2.St} {ρ : Sto}

/-! ### comprehensions -/
theorem wipe_get (σ : L2.St) : ∀ (vs : List Nat) (j : Nat), (wipe σ vs)[j]? = if j ∈ vs then (if j < σ.length then some none else none) else σ[j]?
  | [], j => by simp [wipe]
  | v :: vs, j => by
    unfold wipe
    by_cases hj : v = j
    · subst hj
      rw [List.getElem?_set]
      simp [wipe_length]
    · rw [List.getElem?_set_ne hj, wipe_get σ vs j]
      have : (j ∈ v :: vs) ↔ j ∈ vs := by simp [Ne.symm hj]
      simp only [this]
theorem wipe_set {i : Nat} {x : Option V} {vs : List Nat} (h : i ∈ vs) : wipe (σ.set i x) vs = wipe σ vs := by
  apply List.ext_getElem?
  intro j
  rw [wipe_get, wipe_get]
  by_cases hj : j ∈ vs
  · simp [hj]
  · simp only [if_neg hj]
    exact List.getElem?_set_ne fun e => by subst e; exact hj h
/-- a target that stores into these slots alone -/
def Touch (vs : List Nat) (g : TG) : Prop := ∀ (v : V) (σ : L2.St) (H : Hp) (Q : L2.St → Hp → Prop), g v σ H (fun σ' H' => wipe σ' vs = wipe σ vs → Q σ' H') → g v σ H Q
def Touchs (vs : List Nat) (g : TGs) : Prop := ∀ (xs : List V) (σ : L2.St) (H : Hp) (Q : L2.St → Hp → Prop), g xs σ H (fun σ' H' => wipe σ' vs = wipe σ vs → Q σ' H') → g xs σ H Q
theorem touch_name {i : Nat} {vs : List Nat} (h : i ∈ vs) : Touch vs (gName i) := fun v σ H Q q => q (wipe_set h)
theorem touchs_nil {vs : List Nat} : Touchs vs gNil := fun xs σ H Q q => ⟨q.1, q.2 rfl⟩
def MonoG (g : TG) : Prop := ∀ (v : V) (σ : L2.St) (H : Hp) (Q Q' : L2.St → Hp → Prop), (∀ σ' H', Q σ' H' → Q' σ' H') → g v σ H Q → g v σ H Q'
theorem mono_name {i : Nat} : MonoG (gName i) := fun v σ H Q Q' k q => k _ _ q
theorem touchs_cons {i : Nat} {vs : List Nat} {gs : TGs} (h : i ∈ vs) (h' : Touchs vs gs) : Touchs vs (gCons (gName i) gs) := fun xs σ H Q ⟨v, r, e, q⟩ => ⟨v, r, e, h' r _ H Q (by
  have e2 : wipe (σ.set i (some v)) vs = wipe σ vs := wipe_set h
  show gs r (σ.set i (some v)) H fun σ' H' => wipe σ' vs = wipe (σ.set i (some v)) vs → Q σ' H'
  rw [e2]; exact q)⟩
theorem touch_tup {n : Nat} {vs : List Nat} {gs : TGs} (h : Touchs vs gs) : Touch vs (gTup K n gs) := fun v σ H Q ⟨a, xs, e, h1, h2, q⟩ => ⟨a, xs, e, h1, h2, h xs σ H Q q⟩

def wipeS (ρ : Sto) : List Nat → Sto
  | [] => ρ
  | v :: vs => (wipeS ρ vs).set v none
theorem SR.drop (S : SR K M Z H0 F ns H σ ρ) (i : Nat) : ∃ ns', SR K M Z H0 F ns' H (σ.set i none) (ρ.set i none) := by
  have ge : ∀ {j c}, (ρ.set i none)[j]? = some (some c) → j ≠ i ∧ ρ[j]? = some (some c) := fun {j c} h => by
    by_cases hj : j = i
    · subst hj
      by_cases hl : j < ρ.length
      · rw [get_set_eq hl] at h; cases h
      · rw [List.getElem?_eq_none (by simp; omega)] at h; cases h
    · rw [get_set_ne (Ne.symm hj)] at h
      exact ⟨hj, h⟩
  have ownE : ∀ {j a}, Own (ρ.set i none) (fun j => if j = i then [] else ns j) j a → Own ρ ns j a := fun {j a} ow => by
    obtain ⟨c, e⟩ := ow.cell
    exact ow.set_ne2 (ge e).1
  refine ⟨fun j => if j = i then [] else ns j, by simpa using S.len, fun j c hc => ?_, fun j hj => ?_, fun j m a ow hjm hm => ?_, fun j a ow => S.frz j a (ownE ow), S.ent, S.mls, S.fdm, fun j b hb => ?_, S.zdm⟩
  · obtain ⟨hj, hc⟩ := ge hc
    obtain ⟨v, e, ok⟩ := S.cel j c hc
    refine ⟨v, by rw [List.getElem?_set_ne (Ne.symm hj)]; exact e, ?_⟩
    simp only [if_neg hj]
    exact ok
  · by_cases h : j = i
    · simp only [if_pos h]
    · simp only [if_neg h]
      exact S.emp j fun c hc => hj c (by rw [get_set_ne (Ne.symm h)]; exact hc)
  · by_cases h : m = i
    · simp only [if_pos h] at hm; cases hm
    · simp only [if_neg h] at hm
      exact S.exc j m a (ownE ow) hjm hm
  · by_cases h : j = i
    · simp only [if_pos h] at hb; cases hb
    · simp only [if_neg h] at hb
      exact S.hid j b hb
theorem SR.wipe (S : SR K M Z H0 F ns H σ ρ) : ∀ vs : List Nat, ∃ ns', SR K M Z H0 F ns' H (L2.wipe σ vs) (wipeS ρ vs)
  | [] => ⟨ns, S⟩
  | v :: vs => by
    obtain ⟨ns', S'⟩ := SR.wipe S vs
    exact S'.drop v
/-- the slots that the comprehension has used are as they were before it -/
def unwipe (ρe ρ1 : Sto) : List Nat → Sto
  | [] => ρe
  | i :: vs => match ρ1[i]? with
    | some (some (.sh fr d)) => (unwipe ρe ρ1 vs).set i (some (.sh fr d))
    | _ => unwipe ρe ρ1 vs
theorem wipeS_none {ρ : Sto} : ∀ {vs : List Nat} {j : Nat} {c : Cel}, j ∈ vs → (wipeS ρ vs)[j]? ≠ some (some c)
  | v :: vs, j, c, h => fun e => by
    unfold wipeS at e
    by_cases hj : v = j
    · subst hj
      rw [List.getElem?_set] at e
      split at e
      · split at e <;> cases e
      · rename_i h1; exact h1 rfl
    · rw [List.getElem?_set_ne hj] at e
      exact wipeS_none ((List.mem_cons.mp h).resolve_left (Ne.symm hj)) e
/-- slots that hold nothing don't count -/
theorem SR.resigma {σ' : L2.St} (S : SR K M Z H0 F ns H σ' ρ) (hl : σ.length = σ'.length) (h : ∀ (j : Nat) (c : Cel), ρ[j]? = some (some c) → σ[j]? = σ'[j]?) : SR K M Z H0 F ns H σ ρ :=
  ⟨hl.trans S.len, fun i c hc => let ⟨v, e, ok⟩ := S.cel i c hc; ⟨v, (h i c hc).trans e, ok⟩, S.emp, S.exc, S.frz, S.ent, S.mls, S.fdm, S.hid, S.zdm⟩
/-- what the comprehension's own slots held before it -/
def Kept (ns : Nat → List Addr) (ρ : Sto) (vs : List Nat) : Addr → Prop := fun b => ∃ i fr d, i ∈ vs ∧ ρ[i]? = some (some (.sh fr d)) ∧ b ∈ ns i
theorem SR.kept (S : SR K M Z H0 F ns H σ ρ) (vs : List Nat) : SR K M Z H0 (fun b => F b ∨ Kept ns ρ vs b) ns H σ ρ :=
  S.more (G := Kept ns ρ vs) (fun j a ow h => by
    obtain ⟨i, fr, d, hi, e, hb⟩ := h
    by_cases q : j = i
    · subst q
      exact (ow.noSh e).elim
    · exact S.exc j i a ow (Ne.symm q) hb) fun b h => by
    obtain ⟨i, fr, d, hi, e, hb⟩ := h
    obtain ⟨o, e, _⟩ := S.sub i b hb
    exact ⟨o, e⟩
theorem SR.unwipe {H1 : Hp} {ns1 : Nat → List Addr} {ρ1 : Sto} {G : Addr → Prop} (S1 : SR K M Z H0 F ns1 H1 σ ρ1) (ex : Ext G H1 H) {ρe : Sto} (hl : ρe.length = ρ1.length) : ∀ (vs : List Nat) {ns : Nat → List Addr}, (∀ i fr d, i ∈ vs → ρ1[i]? = some (some (.sh fr d)) → ∀ b ∈ ns1 i, G b) → SR K M Z H0 F ns H σ ρe → (∀ j a, Own ρe ns j a → ¬ G a) → ∃ ns', SR K M Z H0 F ns' H σ (Qq.unwipe ρe ρ1 vs) ∧ (Qq.unwipe ρe ρ1 vs).length = ρe.length ∧ (∀ j a, Own (Qq.unwipe ρe ρ1 vs) ns' j a → Own ρe ns j a) ∧ ∀ j a, a ∈ ns' j → a ∈ ns j ∨ ∃ i, a ∈ ns1 i
  | [], ns, _, S, _ => ⟨ns, S, rfl, fun _ _ h => h, fun _ _ h => .inl h⟩
  | i :: vs, ns, kp, S, no => by
    obtain ⟨ns', S', l', o', n'⟩ := SR.unwipe S1 ex hl vs (fun i fr d hi => kp i fr d (List.mem_cons_of_mem _ hi)) S no
    unfold Qq.unwipe
    split
    · rename_i fr d e
      obtain ⟨v, e1, r, f⟩ := S1.cell e
      have kb := kp i fr d List.mem_cons_self e
      have r' : Rep K H v d (ns1 i) := r.frame ex fun b hb => kb b hb
      have hlt : i < ρ1.length := (List.getElem?_eq_some_iff.mp e).1
      have S2 := S'.setSh (i := i) (fr := fr) (by rw [l', hl]; exact hlt) r' (fun q b hb => f q b hb) (fun j b ow hb => no j b (o' j b ow) (kb b hb)) (fun b hb => S1.hid i b hb)
      have es : σ.set i (some v) = σ := by
        apply List.ext_getElem?
        intro j
        by_cases hj : i = j
        · subst hj
          rw [List.getElem?_set_self (by rw [S1.len]; exact hlt), e1]
        · rw [List.getElem?_set_ne hj]
      rw [es] at S2
      refine ⟨_, S2, by simpa using l', fun j a ow => ?_, fun j a hm => ?_⟩
      · have hj := ow.set_sh.2
        exact o' j a (ow.set_ne2 hj)
      · by_cases hj : j = i
        · simp only [if_pos hj] at hm
          exact .inr ⟨i, hm⟩
        · simp only [if_neg hj] at hm
          exact n' j a hm
    · exact ⟨ns', S', l', o', n'⟩
theorem unwipe_dom {ρe ρ1 : Sto} : ∀ (vs : List Nat) {j : Nat} {c : Cel}, ρe[j]? = some (some c) → ∃ c', (unwipe ρe ρ1 vs)[j]? = some (some c')
  | [], j, c, h => ⟨c, h⟩
  | i :: vs, j, c, h => by
    obtain ⟨c', h'⟩ := unwipe_dom (ρ1 := ρ1) vs h
    unfold unwipe
    split
    · by_cases hj : i = j
      · subst hj
        exact ⟨_, get_set_eq (List.getElem?_eq_some_iff.mp h').1⟩
      · exact ⟨c', by rw [List.getElem?_set_ne hj]; exact h'⟩
    · exact ⟨c', h'⟩
/-- the turns: what is left, the slots, the new list -/
def lcLoop (g : PG') (tt : PT') (te : PX) (vs : List Nat) (K : Bool → List D → Sto → Prop) : List Val → Bool → List D → Sto → Prop
  | [], fr, acc, ρ => K fr acc ρ
  | x :: xs, fr, acc, ρ => g x ρ fun ρ1 => tt ρ1 fun b ρ2 => if b = true then te ρ2 fun y ρ3 => match res (put ρ3 y) y with
      | some d => acc.length < sizeLine ∧ lcLoop g tt te vs K xs (fr && resF (put ρ3 y) y) (acc ++ [d]) (wipeS (put ρ3 y) vs)
      | none => False
    else lcLoop g tt te vs K xs fr acc (wipeS ρ2 vs)
/-- no slot but these is lost: the outer slots that hold something still do (asked once, at the end) -/
def domB (ρ ρ' : Sto) : Bool := (List.range ρ.length).all fun i => match ρ[i]?, ρ'[i]? with
  | some (some _), some (some _) => true
  | some (some _), _ => false
  | _, _ => true
theorem domB_ok {ρ ρ' : Sto} (h : domB ρ ρ' = true) : Dom ρ ρ' := fun i c e => by
  have hi : i < ρ.length := (List.getElem?_eq_some_iff.mp e).1
  have := List.all_eq_true.mp h i (List.mem_range.mpr hi)
  rw [e] at this
  split at this
  · rename_i a b h1 h2; exact ⟨_, h2⟩
  · cases this
  · rename_i h1 h2; first | exact (h1 _ rfl).elim | exact (h2 _ rfl).elim
def pLc (p : PI') (g : PG') (tt : PT') (te : PX) (vs : List Nat) : PX := fun ρ P => p ρ fun items ρ1 => lcLoop g tt te vs (fun fr acc ρe => ρe.length = ρ1.length ∧ domB ρ1 (unwipe ρe ρ1 vs) = true ∧ P (.f fr acc) (unwipe ρe ρ1 vs)) items true [] (wipeS ρ1 vs)
theorem SR.redo (S : SR K M Z H0 F ns H σ ρ) {a : Addr} {o : HO} (ex : Ext (fun b => b ≠ a) H H') (hn : ∀ i, a ∉ ns i) (h0 : H0 a = none) (nF : ¬ F a) (ho : H' a = some o) : SR K M Z H0 F ns H' σ ρ := by
  have kp : ∀ b x, b ≠ a → H b = some x → H' b = some x := fun b x q z => ex.keep b x q z
  have d0 : ∀ b o, H0 b = some o → b ≠ a := fun b o e q => by rw [q, h0] at e; cases e
  refine ⟨S.len, fun i c h => ?_, S.emp, S.exc, S.frz, fun b o h m => kp b o (d0 b o h) (S.ent b o h m), fun b hb => ⟨(S.mls b hb).1, ?_⟩, fun b f => ?_, S.hid, fun b f => ?_⟩
  · obtain ⟨v, e1, ok⟩ := S.cel i c h
    refine ⟨v, e1, ?_⟩
    have na : ∀ b ∈ ns i, b ≠ a := fun b hb q => hn i (q ▸ hb)
    generalize ns i = m at ok na ⊢
    cases ok with
    | sh r f => exact .sh (r.frame ex na) f
    | ow h1 r n f g hk => exact .ow (ex.keep _ _ (na _ List.mem_cons_self) h1) (r.frame ex fun b hb => na b (List.mem_cons_of_mem _ hb)) n f g hk
    | tr r n f g => exact .tr (r.frame ex na) n f g
  · obtain ⟨xs, z⟩ := (S.mls b hb).1
    obtain ⟨ys, z'⟩ := (S.mls b hb).2
    exact ⟨ys, kp b _ (d0 b _ z) z'⟩
  · obtain ⟨x, z⟩ := S.fdm b f
    exact ⟨x, kp b x (fun q => nF (q ▸ f)) z⟩
  · by_cases q : b = a
    · exact ⟨o, q ▸ ho⟩
    · obtain ⟨x, z⟩ := S.zdm b f
      exact ⟨x, kp b x q z⟩
theorem SR.hide (S : SR K M Z H0 F ns H σ ρ) {a : Addr} (hn : ∀ i, a ∉ ns i) (ho : ∃ o, H a = some o) : SR K M (fun b => Z b ∨ b = a) H0 F ns H σ ρ :=
  ⟨S.len, S.cel, S.emp, S.exc, S.frz, S.ent, S.mls, S.fdm, fun j b hb q => q.elim (S.hid j b hb) fun e => hn j (e ▸ hb), fun b q => q.elim (S.zdm b) fun e => e ▸ ho⟩
theorem SR.show' {Y : Addr → Prop} (S : SR K M Y H0 F ns H σ ρ) (h : ∀ b, Z b → Y b) : SR K M Z H0 F ns H σ ρ :=
  ⟨S.len, S.cel, S.emp, S.exc, S.frz, S.ent, S.mls, S.fdm, fun j b hb q => S.hid j b hb (h b q), fun b q => S.zdm b (h b q)⟩
theorem sim_lc {wi : TI} {p : PI'} {g : TG} {pg : PG'} {tt : TT} {pt : PT'} {te : TE} {pe : PX} {vs : List Nat} (hi : SimI K wi p) (hg : SimG K g pg) (tg : Touch vs g) (ht : SimT K tt pt) (he : Sim K te pe) : Sim K (tLc wi g tt te vs) (pLc p pg pt pe vs) := fun M Z H0 F ns H σ ρ P Q S hp kk => by
  refine hi M Z H0 F ns H σ ρ _ _ S hp fun J items Fi H1 ns1 ρ1 S1i fF0 e1 d1 ok q => ?_
  let F' : Addr → Prop := fun b => Fi b ∨ Kept ns1 ρ1 vs b
  have S1 : SR K M Z H0 F' ns1 H1 σ ρ1 := S1i.kept vs
  have fF : ∀ b, F b → F' b := fun b h => .inl (fF0 b h)
  intro L hL
  have L0 : H0 L = none := S1.fresh hL
  have nF' : ¬ F' L := fun f => by obtain ⟨o, e⟩ := S1.fdm L f; rw [hL] at e; cases e
  have nZ : ¬ Z L := fun f => by obtain ⟨o, e⟩ := S1.zdm L f; rw [hL] at e; cases e
  have nIn : ∀ i, L ∉ ns1 i := fun i => S1.notIn hL i
  let KK : Bool → List D → Sto → Prop := fun fr acc ρe => ρe.length = ρ1.length ∧ domB ρ1 (unwipe ρe ρ1 vs) = true ∧ P (.f fr acc) (unwipe ρe ρ1 vs)
  have hq : lcLoop pg pt pe vs KK items true [] (wipeS ρ1 vs) := q
  -- the state between two turns
  let Inv : Hp → List D → Bool → List Val → Prop := fun H2 ds fr rest => ∃ ns2 ρ2 acc tl, SR K M (fun b => Z b ∨ b = L) H0 (fun b => F' b ∨ b = L ∨ b ∈ tl) ns2 H2 (L2.wipe σ vs) (wipeS ρ2 vs) ∧ Ext F' H1 H2 ∧ H2 L = some (.lst acc) ∧ RepL K H2 acc ds tl ∧ L ∉ tl ∧ (fr = true → ∀ b ∈ tl, H0 b = none) ∧ (∀ b ∈ tl, ¬ Z b) ∧ lcLoop pg pt pe vs KK rest fr ds (wipeS ρ2 vs)
  refine ⟨fun i m H2 => m = items.length - i ∧ i ≤ items.length ∧ ∃ ds fr, Inv H2 ds fr (items.drop i), ⟨items.length, by simp, Nat.zero_le _, [], true, ?_⟩, ?_⟩
  · have S2 := S1.grow (same_upd (o := .lst []) hL)
    have S3 := S2.hide (a := L) nIn ⟨_, upd_same⟩
    obtain ⟨ns4, S4⟩ := S3.wipe vs
    refine ⟨ns4, ρ1, [], [], ?_, .same (same_upd hL), upd_same, .nil, (fun h => nomatch h), (fun _ _ h => nomatch h), (fun _ h => nomatch h), by simpa using hq⟩
    refine S4.more (G := fun b => b = L ∨ b ∈ []) (fun i a ow h => ?_) fun b h => h.elim (fun e => ⟨.lst [], by rw [e]; exact upd_same⟩) fun h => nomatch h
    rcases h with h | h
    · subst h
      exact S4.hid i a ow.mem (.inr rfl)
    · cases h
  · rintro i m H2 ⟨rfl, hi, ds, fr, ns2, ρ2, acc, tl, S2, e2, hD, hr, hn, hf, hz, hq2⟩
    by_cases hlt : i < items.length
    · refine .inr ⟨ok.go i H2 (e2.weak fun b h => .inl h) hlt, fun H3 => ∃ ds fr, Inv H3 ds fr (items.drop (i + 1)), fun H3 h3 => ⟨items.length - (i + 1), by omega, rfl, hlt, h3⟩, fun v H3 hy => ?_⟩
      obtain ⟨fx, d, ms, hx, sm, r, f, hF, hZ⟩ := ok.yld i H2 v H3 (e2.weak fun b h => .inl h) hlt hy
      have hd : items.drop i = .v fx d :: items.drop (i + 1) := by
        rw [List.drop_eq_getElem_cons hlt]
        have : items[i] = .v fx d := by
          rw [List.getElem?_eq_getElem hlt] at hx
          exact Option.some.inj hx
        rw [this]
      rw [hd] at hq2
      have S3 := S2.grow sm
      have vx : VOk K (fun b => Z b ∨ b = L) H0 (fun b => F' b ∨ b = L ∨ b ∈ tl) ns2 H3 (L2.wipe σ vs) (wipeS ρ2 vs) v (.v fx d) :=
        .v r f (fun j a ow hm => S3.frz j a ow (.inl (.inl (hF a hm)))) fun b hb z => z.elim (hZ b hb) fun e => nF' (.inl (e ▸ hF b hb))
      refine tg _ _ _ _ ?_
      refine hg M _ H0 _ ns2 H3 (L2.wipe σ vs) (wipeS ρ2 vs) v _ _ _ S3 vx hq2 fun σ4 H4 ns4 ρ4 S4 e4 q4 hw => ⟨by
        rw [hw]
        apply List.ext_getElem?
        intro j
        rw [wipe_get, wipe_get]
        by_cases hj : j ∈ vs
        · simp [hj, wipe_length]
        · simp [hj], ?_⟩
      have hw' : L2.wipe σ4 vs = L2.wipe σ vs := by
        rw [hw]
        apply List.ext_getElem?
        intro j
        rw [wipe_get, wipe_get]
        by_cases hj : j ∈ vs
        · simp [hj, wipe_length]
        · simp [hj]
      refine ht M _ H0 _ ns4 H4 σ4 ρ4 _ _ S4 q4 fun b H5 ns5 ρ5 S5 e5 d5 q5 => ?_
      have e25 : Ext (fun b => F' b ∨ b = L ∨ b ∈ tl) H2 H5 := (Ext.same sm).trans (e4.trans e5)
      cases b with
      | false =>
        rw [if_neg Bool.false_ne_true] at q5 ⊢
        obtain ⟨ns6, S6⟩ := S5.wipe vs
        rw [hw'] at S6
        exact ⟨ds, fr, ns6, ρ5, acc, tl, S6, e2.trans (e25.weak fun b h => .inl h), e25.keep L _ (.inr (.inl rfl)) hD, hr.frame e25 (fun b hb => .inr (.inr hb)), hn, hf, hz, q5⟩
      | true =>
        rw [if_pos rfl] at q5 ⊢
        refine he M _ H0 _ ns5 H5 σ4 ρ5 _ _ S5 q5 fun y w H6 ns6 ρ6 S6 e6 d6 vy q6 => ?_
        have e26 := e25.trans e6
        have hD6 := e26.keep L _ (.inr (.inl rfl)) hD
        have hr6 := hr.frame e26 fun b hb => .inr (.inr hb)
        split at q6
        · rename_i d' hd'
          have S7 := put_sr S6 y
          obtain ⟨ks, rk, fk, ok', zk⟩ := (vy.move (put_dom ρ6 y) fun _ _ => put_own (x := y)).any S7 put_away hd'
          refine ⟨acc, hD6, by rw [hr.length]; exact q6.1, ?_⟩
          have ex : Ext (fun b => b ≠ L) H6 (upd H6 L (.lst (acc ++ [w]))) := ext_write hD6 fun q => q rfl
          have nK : L ∉ ks := fun h => zk L h (.inr rfl)
          have hid6 : ∀ j, L ∉ ns6 j := fun j h => S7.hid j L h (.inr rfl)
          have S8 : SR K M (fun b => Z b ∨ b = L) H0 (fun b => F' b ∨ b ∈ tl) ns6 (upd H6 L (.lst (acc ++ [w]))) σ4 (put ρ6 y) := (S7.weak (F := fun b => F' b ∨ b ∈ tl) fun b h => h.elim .inl fun h => .inr (.inr h)).redo ex hid6 L0 (fun h => h.elim nF' hn) upd_same
          have S9 : SR K M (fun b => Z b ∨ b = L) H0 (fun b => F' b ∨ b = L ∨ b ∈ tl ++ ks) ns6 (upd H6 L (.lst (acc ++ [w]))) σ4 (put ρ6 y) := by
            refine (S8.more (G := fun b => b = L ∨ b ∈ ks) (fun j a ow h => ?_) fun b h => ?_).weak fun b h => ?_
            · rcases h with h | h
              · subst h
                exact hid6 j ow.mem
              · exact ok' j a ow h
            · rcases h with h | h
              · exact ⟨.lst (acc ++ [w]), by rw [h]; exact upd_same⟩
              · obtain ⟨o, e, _⟩ := rk.dom b h
                exact ⟨o, by rw [upd_ne (fun q => by subst q; exact nK h)]; exact e⟩
            · rcases h with h | h | h
              · exact .inl (.inl h)
              · exact .inr (.inl h)
              · exact (List.mem_append.mp h).elim (fun h => .inl (.inr h)) fun h => .inr (.inr h)
          obtain ⟨nsA, SA⟩ := S9.wipe vs
          rw [hw'] at SA
          refine ⟨ds ++ [d'], fr && resF (put ρ6 y) y, nsA, put ρ6 y, acc ++ [w], tl ++ ks, SA, (e2.trans (e26.weak fun b h => .inl h)).trans (ext_write hD6 nF'), upd_same, ?_, fun h => (List.mem_append.mp h).elim hn nK, fun z b hb => (List.mem_append.mp hb).elim (hf (Bool.and_eq_true_iff.mp z).1 b) (fk (Bool.and_eq_true_iff.mp z).2 b), fun b hb => (List.mem_append.mp hb).elim (hz b) fun h z => zk b h (.inl z), q6.2⟩
          exact (hr6.frame ex fun b hb q => hn (q ▸ hb)).append (RepL.one (rk.frame ex fun b hb q => nK (q ▸ hb)))
        · exact q6.elim
    · have ei : items.drop i = [] := List.drop_eq_nil_of_le (by omega)
      rw [ei] at hq2
      obtain ⟨hl, hdom, hP⟩ := hq2
      refine .inl ⟨ok.stop i H2 (e2.weak fun b h => .inl h) (by omega), ?_⟩
      have S3 : SR K M (fun b => Z b ∨ b = L) H0 (fun b => F' b ∨ b = L ∨ b ∈ tl) ns2 H2 σ (wipeS ρ2 vs) := by
        refine S2.resigma (wipe_length σ vs).symm fun j c hc => ?_
        rw [wipe_get, if_neg fun hj => wipeS_none hj hc]
      have S1h : SR K M (fun b => Z b ∨ b = L) H0 F ns1 (upd H1 L (.lst [])) σ ρ1 := ((S1.grow (same_upd (o := .lst []) hL)).hide (a := L) nIn ⟨_, upd_same⟩).weak fF
      have ex0 : Ext (Kept ns1 ρ1 vs) (upd H1 L (.lst [])) H2 := by
        refine ⟨fun b o h e => e2.keep b o (.inr h) (by rw [upd_ne (fun q => by obtain ⟨i, _, _, _, _, hb⟩ := h; exact nIn i (q ▸ hb))] at e; exact e), fun b xs h => e2.tups b xs ?_, fun b o u h => e2.frzs b o u ?_, fun b h => ?_⟩
        · by_cases q : b = L
          · rw [q, upd_same] at h; cases h
          · rw [upd_ne q] at h; exact h
        · by_cases q : b = L
          · rw [q, upd_same] at h; cases h
          · rw [upd_ne q] at h; exact h
        · by_cases q : b = L
          · rw [q, hD] at h; cases h
          · rw [upd_ne q]; exact e2.grow b h
      obtain ⟨ns5, S5h, l5, o5, _⟩ := S1h.unwipe ex0 hl vs (fun i fr d hi e b hb => ⟨i, fr, d, hi, e, hb⟩) (S3.weak (F := F) fun b h => .inl (fF b h)) fun j a ow k => S3.frz j a ow (.inl (.inr k))
      have S5 : SR K M Z H0 F ns5 H2 σ (unwipe (wipeS ρ2 vs) ρ1 vs) := S5h.show' fun b h => .inl h
      have e02 : Ext F H H2 := e1.trans (e2.weak fF)
      refine kk _ _ H2 ns5 _ S5 e02 (d1.trans (domB_ok hdom)) ?_ hP
      exact .f hD hr hn hf L0 (fun j h => S5h.hid j L h (.inr rfl)) (fun j b ow hb => S3.frz j b (o5 j b ow) (.inr (.inr hb))) (fun h => nF' (fF L h)) fun b hb z => (List.mem_cons.mp hb).elim (fun e => nZ (e ▸ z)) fun h => hz b h z
end
end Qq

namespace Qq
open PySem PySem.Spec PyProof.Rows L2
section
variable {K : PySem.W.Frag} {M : List Addr} {Z : Addr → Prop} {H0 H H' : Hp} {F G : Addr → Prop} {ns : Nat → List Addr} {σ : L2.St} {ρ : Sto}

/-! ### isinstance of built-in classes -/
def tyName : D → Option String
  | .non => some "NoneType"
  | .bl _ => some "bool"
  | .int _ => some "int"
  | .str _ => some "str"
  | .tup _ => some "tuple"
  | .lst _ => some "list"
  | .lsr _ => some "list"
  | .dic _ _ => some "dict"
  | _ => none
theorem Rep.tyX {v : V} {d : D} {ms : List Addr} (r : Rep K H v d ms) {n : String} (h : tyName d = some n) : TyX K H v (.type n) := by
  cases r with
  | non => cases h; exact .base .non
  | bl b => cases h; exact .base (.bl b)
  | int i => cases h; exact .base (.int i)
  | ty _ => cases h
  | cls _ => cases h
  | str _ => cases h; exact .base (.str _)
  | tup t _ =>
    cases h
    rcases t with (t | ⟨o, t⟩) | ⟨o, _, _, t, c, _⟩
    · exact .base (.tup t)
    · exact .fTuple t
    · exact .kTuple t c
  | lst t _ => cases h; exact .base (.lst t)
  | lstR t _ =>
    cases h
    rcases t H fun _ _ q => q with (t | ⟨o, t⟩) | ⟨o, _, _, t, c, _⟩
    · exact .base (.lst t)
    · exact .base (.frz t)
    · exact .kList t c
  | obj _ _ _ _ => cases h
  | dic t _ _ => cases h; exact .base (.dK t)
  | exn0 _ => cases h
  | exn1 _ _ _ _ => cases h
/-- is a thing of the one class one of the other -/
def isB (a b : String) : Bool := a == b || (a == "bool" && b == "int")
def tys : List String := ["NoneType", "bool", "int", "str", "tuple", "list", "dict"]
theorem kit_all : (tys.all fun a => tys.all fun b => b == "NoneType" || decide (kitB a b = some (isB a b))) = true := by decide +kernel
theorem kit_isB {a b : String} (ha : a ∈ tys) (hb : b ∈ tys) (hn : b ≠ "NoneType") : kitB a b = some (isB a b) := by
  have := List.all_eq_true.mp (List.all_eq_true.mp kit_all a ha) b hb
  rcases Bool.or_eq_true_iff.mp this with e | e
  · exact absurd (by simpa using e) hn
  · exact of_decide_eq_true e
theorem tyName_mem {d : D} {n : String} (h : tyName d = some n) : n ∈ tys := by
  cases d <;> simp [tyName] at h <;> (subst h; simp [tys])
def okTy (b : String) : Bool := tys.contains b && b != "NoneType"
def gIsi : List D → (D → Prop) → Prop := fun ds P => match ds with
  | [d, .ty n] => match tyName d with
    | some m => okTy n = true ∧ P (.bl (isB m n))
    | none => False
  | _ => False
theorem okTy_iff {n : String} (h : okTy n = true) : n ∈ tys ∧ n ≠ "NoneType" := by
  unfold okTy at h
  simpa using h
theorem callPure_isi : CallPure K (rIsi K) gIsi := by
  intro H vs ds C Q r g k
  unfold gIsi at g
  split at g
  · rename_i d n
    cases r with
    | cons a t =>
      cases t with
      | cons b t =>
      cases t
      obtain ⟨ms, a⟩ := a
      obtain ⟨ms', b⟩ := b
      cases b
      split at g
      · rename_i m hm
        exact ⟨_, _, _, .type n, _, rfl, .ty n, a.tyX hm, kit_ty (kit_isB (tyName_mem hm) (okTy_iff g.1).1 (okTy_iff g.1).2), k _ _ (.bl _) g.2⟩
      · exact g.elim
  · exact g.elim
/-- isinstance(x, (A, B)) -/
def pIsi2 (n k : String) (p : PX) : PX := fun ρ P => p ρ fun x ρ1 => match res ρ1 x with
  | some d => match tyName d with
    | some m => (okTy n = true ∧ okTy k = true) ∧ P (.v true (.bl (isB m n || isB m k))) ρ1
    | none => False
  | none => False
theorem sim_isi2 {n k : String} {t : TE} {p : PX} (h : Sim K t p) : Sim K (tCB (rIsiT K) (tCons t (tCons (tTup (tCons (tC (.ty n)) (tCons (tC (.ty k)) tNil))) tNil))) (pIsi2 n k p) := fun M Z H0 F ns H σ ρ P Q S hp kk => by
  refine h M Z H0 F ns H σ ρ _ _ S hp fun x v H1 ns1 ρ1 S1 e1 d1 vx q => ?_
  split at q
  · rename_i d hx
    split at q
    · rename_i m hm
      obtain ⟨⟨h1, h2⟩, q⟩ := q
      refine ⟨(by show 2 ≤ sizeLine; decide), fun tp hp => ?_⟩
      obtain ⟨ms, r⟩ := vx.rep S1 hx
      have r' : Rep K (upd H1 tp (.tup [.ty n, .ty k])) v d ms := r.frame (Ext.same (F := fun _ => True) (same_upd hp)) fun _ _ => trivial
      have k1 := kit_ty (K := K) (kit_isB (tyName_mem hm) (okTy_iff h1).1 (okTy_iff h1).2)
      have k2 := kit_ty (K := K) (kit_isB (tyName_mem hm) (okTy_iff h2).1 (okTy_iff h2).2)
      refine ⟨_, tp, _, _, [.type n, .type k], _, rfl, upd_same, .cons (.ty n) (.cons (.ty k) .nil), r'.tyX hm, kitAny_cons k1 (fun z => kitAny_cons k2 (fun z2 => ?_) fun z2 => ?_) fun z => ?_, kk _ _ _ ns1 ρ1 (S1.grow (same_upd hp)) (e1.trans (.same (same_upd hp))) d1 (.bl _) q⟩
      · rw [z, z2]; exact kitAny_nil
      · rw [z, z2]; rfl
      · rw [z]; rfl
    · exact q.elim
  · exact q.elim

/-! ### list(range(..)), tuple(range(..)) -/
def rgD (lo c : Int) (n : Nat) : List D := (List.range n).map fun (i : Nat) => .int (lo + (i : Int) * c)
theorem repL_ints {f : Nat → Int} : ∀ l : List Nat, RepL K H (l.map fun i => V.int (f i)) (l.map fun i => D.int (f i)) []
  | [] => .nil
  | a :: l => .cons (.int _) (repL_ints l) rfl
theorem rgV_rep (a b : Int) : RepL K H (rgV a b) (rgD a 1 (b - a).toNat) [] := by
  unfold rgV rgD
  have := repL_ints (K := K) (H := H) (f := fun i => a + (i : Int)) (List.range (b - a).toNat)
  simpa using this
def SimR (K : PySem.W.Frag) (t : L2.St → Hp → (Int → Int → Hp → Prop) → Prop) (p : PAs) : Prop := ∀ (M : List Addr) (Z : Addr → Prop) (H0 : Hp) (F : Addr → Prop) (ns : Nat → List Addr) (H : Hp) (σ : L2.St) (ρ : Sto) (P : List Val → Sto → Prop) (Q : Int → Int → Hp → Prop),
  SR K M Z H0 F ns H σ ρ → p ρ P → (∀ a b xs H' ns' ρ', SR K M Z H0 F ns' H' σ ρ' → Ext F H H' → Dom ρ ρ' → (resAll ρ' xs = some [.int a, .int b]) → P xs ρ' → Q a b H') → t σ H Q
def rgArgs1 (p : PX) : PAs := fun ρ P => p ρ fun x ρ1 => match res ρ1 x with
  | some (.int j) => P [.v true (.int 0), .v true (.int j)] ρ1
  | _ => False
def rgArgs2 (p q : PX) : PAs := fun ρ P => p ρ fun x ρ1 => q ρ1 fun y ρ2 => match res ρ2 x.dn, res ρ2 y with
  | some (.int i), some (.int j) => P [.v true (.int i), .v true (.int j)] ρ2
  | _, _ => False
theorem simR_1 {t : TE} {p : PX} (h : Sim K t p) : SimR K (tRg1 t) (rgArgs1 p) := fun M Z H0 F ns H σ ρ P Q S hp k => by
  refine h M Z H0 F ns H σ ρ _ _ S hp fun x v H1 ns1 ρ1 S1 e1 d1 vx q => ?_
  split at q
  · rename_i j hx
    exact ⟨j, vx.intV S1 hx, k _ _ _ H1 ns1 ρ1 S1 e1 d1 rfl q⟩
  · exact q.elim
theorem simR_2 {t u : TE} {p q : PX} (h : Sim K t p) (h' : Sim K u q) : SimR K (tRg2 t u) (rgArgs2 p q) := fun M Z H0 F ns H σ ρ P Q S hp k => by
  refine sim_two h h' (k := fun x y ρ2 => match res ρ2 x, res ρ2 y with
    | some (.int i), some (.int j) => P [.v true (.int i), .v true (.int j)] ρ2
    | _, _ => False) (R := fun x y H2 => ∃ i j, x = .int i ∧ y = .int j ∧ Q i j H2) S hp fun x y v u H2 ns2 ρ2 S2 e2 d2 vx vy q => ?_
  split at q
  · rename_i i j hx hy
    exact ⟨i, j, vx.intV S2 hx, vy.intV S2 hy, k _ _ _ H2 ns2 ρ2 S2 e2 d2 rfl q⟩
  · exact q.elim
def RgQ (a b : Int) : Prop := R62 a ∧ R62 b ∧ b - a ≤ 16777216
theorem RgQ.ok {a b : Int} (h : RgQ a b) : RgOk a b := ⟨h.1.1, h.1.2, h.2.1.1, h.2.1.2, by have := h.2.2; omega⟩
def pLstRg (p : PAs) : PX := fun ρ P => p ρ fun xs ρ1 => match resAll ρ1 xs with
  | some [.int a, .int b] => RgQ a b ∧ P (.f true (rgD a 1 (b - a).toNat)) ρ1
  | _ => False
def pTupRg (p : PAs) : PX := fun ρ P => p ρ fun xs ρ1 => match resAll ρ1 xs with
  | some [.int a, .int b] => RgQ a b ∧ P (.v true (.tup (rgD a 1 (b - a).toNat))) ρ1
  | _ => False
theorem sim_lstRg {t : L2.St → Hp → (Int → Int → Hp → Prop) → Prop} {p : PAs} (h : SimR K t p) : Sim K (tLstRg t) (pLstRg p) := fun M Z H0 F ns H σ ρ P Q S hp kk => by
  refine h M Z H0 F ns H σ ρ _ _ S hp fun a b xs H1 ns1 ρ1 S1 e1 d1 hx q => ?_
  simp only [hx] at q
  refine ⟨q.1.ok, fun p hp => ?_⟩
  have I : Items K Z H0 H1 ns1 ρ1 true (rgV a b) (rgD a 1 (b - a).toNat) [] := ⟨rgV_rep a b, (fun _ _ h => nomatch h), (fun _ _ _ h => nomatch h), (fun _ h => nomatch h)⟩
  exact kk _ _ _ ns1 ρ1 (S1.grow (same_upd hp)) (e1.trans (.same (same_upd hp))) d1 (VOk.newL S1 hp I) q.2
theorem sim_tupRg {t : L2.St → Hp → (Int → Int → Hp → Prop) → Prop} {p : PAs} (h : SimR K t p) : Sim K (tTupRg t) (pTupRg p) := fun M Z H0 F ns H σ ρ P Q S hp kk => by
  refine h M Z H0 F ns H σ ρ _ _ S hp fun a b xs H1 ns1 ρ1 S1 e1 d1 hx q => ?_
  simp only [hx] at q
  refine ⟨q.1.ok, fun p hp => ?_⟩
  have I : Items K Z H0 H1 ns1 ρ1 true (rgV a b) (rgD a 1 (b - a).toNat) [] := ⟨rgV_rep a b, (fun _ _ h => nomatch h), (fun _ _ _ h => nomatch h), (fun _ h => nomatch h)⟩
  exact kk _ _ _ ns1 ρ1 (S1.grow (same_upd hp)) (e1.trans (.same (same_upd hp))) d1 (VOk.newT S1 hp I) q.2
end
end Qq

namespace Qq
open PySem PySem.Spec PyProof.Rows L2

/-! ### a piece of the text, its reading, what it does to stores -/
structure QT (X : Cx) (e : Expr) (t : TT) (p : PT') : Prop where
  pt : PT X e t
  sim : SimT X.K t p
structure QW (X : Cx) (e : Expr) (t : TT) (p : PT') : Prop where
  pw : PW X e t
  sim : SimT X.K t p
structure QA (X : Cx) (es : List Expr) (t : TA) (p : PAs) : Prop where
  pa : PA X es t
  sim : SimA X.K t p
structure QO (X : Cx) (e : Option Expr) (t : TO) (p : PO') : Prop where
  po : PO X e t
  sim : SimO X.K t p
structure QI (X : Cx) (tg e : Expr) (t : TI) (p : PI') : Prop where
  pi : PI X tg e t
  sim : SimI X.K t p
structure QG (X : Cx) (e : Expr) (vs : List Nat) (t : TG) (p : PG') : Prop where
  pg : PG X e t
  sim : SimG X.K t p
  tch : Touch vs t
structure QGs (X : Cx) (es : List Expr) (vs : List Nat) (t : TGs) (p : PGs') : Prop where
  pgs : PGs X es t
  sim : SimGs X.K t p
  tch : Touchs vs t
structure QS (X : Cx) (st : Stmt) (t : TS) (p : PS') : Prop where
  ps : PS X st t
  sim : SimS X.K t p
structure QSs (X : Cx) (st : List Stmt) (t : TS) (p : PS') : Prop where
  pss : PSs X st t
  sim : SimS X.K t p
section
variable {X : Cx} {a b c e : Expr} {es rest : List Expr} {ta tb tc te : TE} {pa pb pc pe : PX} {pos p1 p2 : Pos}

theorem qv (i : Nat) {x : Str} (hN : X.N[i]? = some x := by rfl) (hv : Vis X.env.scope x := by first | exact Or.inl rfl | exact Or.inr (Or.inl rfl) | exact Or.inr (Or.inr rfl)) (hd : (x == ("__debug__" : Str)) = false := by decide)
    (hcd : (x == ("__classdict__" : Str)) = false := by decide) : QE X (.Name x pos) (tVar i) (pVar i) := ⟨pe_var hN hv hd hcd, sim_var⟩
theorem qint {i : Int} {j} : QE X (.Constant (.int i) j pos) (tC (.int i)) (pC (.int i)) := ⟨pe_int, sim_c fun _ => .int i⟩
theorem qbl {i : Bool} {j} : QE X (.Constant (.bool i) j pos) (tC (.bl i)) (pC (.bl i)) := ⟨pe_bl, sim_c fun _ => .bl i⟩
theorem qnon {j} : QE X (.Constant .none j pos) (tC .non) (pC .non) := ⟨pe_non, sim_c fun _ => .non⟩
theorem qstr {z : Str} {j} (x : List Nat) (h : z.cps.toList = x) : QE X (.Constant (.str z) j pos) (tC (.str z)) (pC (.str x)) := ⟨pe_str, sim_c fun _ => .str h⟩
/-- a name of the module that stands for plain data -/
theorem qglo {x : Str} {v : V} {u : Value} (d : D) (hm : X.mg x = some u) (r : RelV v u) (rd : ∀ H, Rep X.K H v d []) (hg : Gl X x := by rfl) (hd : (x == ("__debug__" : Str)) = false := by decide) : QE X (.Name x pos) (tC v) (pC d) := ⟨pe_glob hg hm r hd, sim_c rd⟩
/-- a built-in class as a value -/
theorem qty {x : Str} (n : String) (hm : X.mg x = none) (hv : bootBuiltins x = some (.type n)) (hg : Gl X x := by rfl) (hn : x ≠ "__name__" := by decide) (hd : (x == ("__debug__" : Str)) = false := by decide) : QE X (.Name x pos) (tC (.ty n)) (pC (.ty n)) :=
  ⟨pe_bltn hg hm hv rfl hn hd, sim_c fun _ => .ty n⟩
theorem qadd (ha : QE X a ta pa) (hb : QE X b tb pb) : QE X (.BinOp a .Add b pos) (tOp (rAdd X.K) ta tb) (pOp kAdd pa pb) := ⟨pe_op op_addAny ha.pe hb.pe, sim_op sim_add ha.sim hb.sim⟩
theorem qsub (ha : QE X a ta pa) (hb : QE X b tb pb) : QE X (.BinOp a .Sub b pos) (tOp (rI0 fun i j => .int (i - j)) ta tb) (pOp (kP (gI0 fun i j => .int (i - j))) pa pb) := ⟨pe_op op_sub ha.pe hb.pe, sim_op (opSim_pure opPure_I0) ha.sim hb.sim⟩
theorem qmul (ha : QE X a ta pa) (hb : QE X b tb pb) : QE X (.BinOp a .Mult b pos) (tOp rMulA ta tb) (pOp kMul pa pb) := ⟨pe_op op_mulAny ha.pe hb.pe, sim_op sim_mul ha.sim hb.sim⟩
theorem qfdiv (ha : QE X a ta pa) (hb : QE X b tb pb) : QE X (.BinOp a .FloorDiv b pos) (tOp (rI CDivA fun i j => .int (i / j)) ta tb) (pOp (kP (gI CDivA fun i j => .int (i / j))) pa pb) := ⟨pe_op op_fdivA ha.pe hb.pe, sim_op (opSim_pure opPure_I) ha.sim hb.sim⟩
theorem qmod (ha : QE X a ta pa) (hb : QE X b tb pb) : QE X (.BinOp a .Mod b pos) (tOp (rI (fun _ j => 0 < j) fun i j => .int (i % j)) ta tb) (pOp (kP (gI (fun _ j => 0 < j) fun i j => .int (i % j))) pa pb) := ⟨pe_op op_mod ha.pe hb.pe, sim_op (opSim_pure opPure_I) ha.sim hb.sim⟩
theorem qpow (ha : QE X a ta pa) (hb : QE X b tb pb) : QE X (.BinOp a .Pow b pos) (tOp (rI CPow fun i j => .int (i ^ j.toNat)) ta tb) (pOp (kP (gI CPow fun i j => .int (i ^ j.toNat))) pa pb) := ⟨pe_op op_pow ha.pe hb.pe, sim_op (opSim_pure opPure_I) ha.sim hb.sim⟩
theorem qneg (ha : QE X a ta pa) : QE X (.UnaryOp .USub a pos) (tUn (rU fun i => .int (-i)) ta) (pNeg pa) := ⟨pe_un un_neg ha.pe, sim_neg ha.sim⟩
theorem qix (ha : QE X a ta pa) (hb : QE X b tb pb) (hs : PlainIx b := by exact fun _ _ => rfl) : QE X (.Subscript a b pos) (tOp (rIx X.K) ta tb) (pOp kIx pa pb) := ⟨pe_ix ix_seq ha.pe hb.pe hs, sim_op sim_ix ha.sim hb.sim⟩
theorem qon : QO X none tNoPart pNoPart := ⟨po_none, simO_none⟩
theorem qos (h : QE X e te pe) : QO X (some e) (tPart te) (pPart pe) := ⟨po_some h.pe, simO_some h.sim⟩
theorem qsl {lo hi : Option Expr} {tl th : TO} {pl ph : PO'} (he : QE X e te pe) (hl : QO X lo tl pl) (hh : QO X hi th ph) : QE X (.Subscript e (.Slice lo hi none p2) pos) (tSl (rSl X.K) te tl th) (pSl pe pl ph) := ⟨pe_slice sl_any he.pe hl.po hh.po, sim_sl he.sim hl.sim hh.sim⟩

/-! comparisons: as values, as tests -/
theorem qeq (hu : X.A.units + 64 < cLine) (ha : QE X a ta pa) (hb : QE X b tb pb) : QE X (.Compare a [.Eq] [b] pos) (tOp (rEqD X.K) ta tb) (pOp (kP gEq) pa pb) := ⟨pe_cmpR (op_eqD hu) ha.pe hb.pe (nomark _), sim_op (opSim_pure opPure_eq) ha.sim hb.sim⟩
theorem qne (hu : X.A.units + 64 < cLine) (ha : QE X a ta pa) (hb : QE X b tb pb) : QE X (.Compare a [.NotEq] [b] pos) (tOp (rNeD X.K) ta tb) (pOp (kP gNe) pa pb) := ⟨pe_cmpR (op_neD hu) ha.pe hb.pe (nomark _), sim_op (opSim_pure opPure_ne) ha.sim hb.sim⟩
theorem qlt (ha : QE X a ta pa) (hb : QE X b tb pb) : QE X (.Compare a [.Lt] [b] pos) (tOp (rOrd (fun i j => decide (i < j)) fun a b => decide (a < b)) ta tb) (pOp (kP (gOrd (fun i j => decide (i < j)) fun a b => decide (a < b))) pa pb) := ⟨pe_cmpR op_ltA ha.pe hb.pe (nomark _), sim_op (opSim_pure opPure_ord) ha.sim hb.sim⟩
theorem qle (ha : QE X a ta pa) (hb : QE X b tb pb) : QE X (.Compare a [.LtE] [b] pos) (tOp (rOrd (fun i j => decide (i ≤ j)) fun a b => !decide (b < a)) ta tb) (pOp (kP (gOrd (fun i j => decide (i ≤ j)) fun a b => !decide (b < a))) pa pb) := ⟨pe_cmpR op_leA ha.pe hb.pe (nomark _), sim_op (opSim_pure opPure_ord) ha.sim hb.sim⟩
theorem qgt (ha : QE X a ta pa) (hb : QE X b tb pb) : QE X (.Compare a [.Gt] [b] pos) (tOp (rOrd (fun i j => decide (j < i)) fun a b => decide (b < a)) ta tb) (pOp (kP (gOrd (fun i j => decide (j < i)) fun a b => decide (b < a))) pa pb) := ⟨pe_cmpR op_gtA ha.pe hb.pe (nomark _), sim_op (opSim_pure opPure_ord) ha.sim hb.sim⟩
theorem qge (ha : QE X a ta pa) (hb : QE X b tb pb) : QE X (.Compare a [.GtE] [b] pos) (tOp (rOrd (fun i j => decide (j ≤ i)) fun a b => !decide (a < b)) ta tb) (pOp (kP (gOrd (fun i j => decide (j ≤ i)) fun a b => !decide (a < b))) pa pb) := ⟨pe_cmpR op_geA ha.pe hb.pe (nomark _), sim_op (opSim_pure opPure_ord) ha.sim hb.sim⟩
theorem qin (hu : X.A.units + 65 < cLine) (ha : QE X a ta pa) (hb : QE X b tb pb) (hm : behindInMarks .In b = false := by first | rfl | with_unfolding_all rfl) : QE X (.Compare a [.In] [b] pos) (tOp (rInA X.K false) ta tb) (pOp (kP (gIn false)) pa pb) := ⟨pe_cmpR (op_inA hu) ha.pe hb.pe hm, sim_op (opSim_pure opPure_in) ha.sim hb.sim⟩
theorem qnin (hu : X.A.units + 65 < cLine) (ha : QE X a ta pa) (hb : QE X b tb pb) (hm : behindInMarks .NotIn b = false := by first | rfl | with_unfolding_all rfl) : QE X (.Compare a [.NotIn] [b] pos) (tOp (rInA X.K true) ta tb) (pOp (kP (gIn true)) pa pb) := ⟨pe_cmpR (op_notInA hu) ha.pe hb.pe hm, sim_op (opSim_pure opPure_in) ha.sim hb.sim⟩
theorem qis (ha : QE X a ta pa) (hb : QE X b tb pb) : QE X (.Compare a [.Is] [b] pos) (tOp rIsA ta tb) (pOp (kP (gIs .bl)) pa pb) := ⟨pe_cmpR op_isA ha.pe hb.pe (nomark _), sim_op (opSim_pure opPure_is) ha.sim hb.sim⟩
theorem qisn (ha : QE X a ta pa) (hb : QE X b tb pb) : QE X (.Compare a [.IsNot] [b] pos) (tOp rIsNotA ta tb) (pOp (kP (gIs fun b => .bl (!b))) pa pb) := ⟨pe_cmpR op_isNotA ha.pe hb.pe (nomark _), sim_op (opSim_pure opPure_isNot) ha.sim hb.sim⟩
theorem qteq (hu : X.A.units + 64 < cLine) (ha : QE X a ta pa) (hb : QE X b tb pb) : QT X (.Compare a [.Eq] [b] pos) (tTest (tOp (rEqD X.K) ta tb)) (pTst (pOp (kP gEq) pa pb)) := ⟨pt_cmpR (op_eqD hu) ha.pe hb.pe (nomark _), simT_tst (sim_op (opSim_pure opPure_eq) ha.sim hb.sim)⟩
theorem qtne (hu : X.A.units + 64 < cLine) (ha : QE X a ta pa) (hb : QE X b tb pb) : QT X (.Compare a [.NotEq] [b] pos) (tTest (tOp (rNeD X.K) ta tb)) (pTst (pOp (kP gNe) pa pb)) := ⟨pt_cmpR (op_neD hu) ha.pe hb.pe (nomark _), simT_tst (sim_op (opSim_pure opPure_ne) ha.sim hb.sim)⟩
theorem qtlt (ha : QE X a ta pa) (hb : QE X b tb pb) : QT X (.Compare a [.Lt] [b] pos) (tTest (tOp (rOrd (fun i j => decide (i < j)) fun a b => decide (a < b)) ta tb)) (pTst (pOp (kP (gOrd (fun i j => decide (i < j)) fun a b => decide (a < b))) pa pb)) := ⟨pt_cmpR op_ltA ha.pe hb.pe (nomark _), simT_tst (sim_op (opSim_pure opPure_ord) ha.sim hb.sim)⟩
theorem qtle (ha : QE X a ta pa) (hb : QE X b tb pb) : QT X (.Compare a [.LtE] [b] pos) (tTest (tOp (rOrd (fun i j => decide (i ≤ j)) fun a b => !decide (b < a)) ta tb)) (pTst (pOp (kP (gOrd (fun i j => decide (i ≤ j)) fun a b => !decide (b < a))) pa pb)) := ⟨pt_cmpR op_leA ha.pe hb.pe (nomark _), simT_tst (sim_op (opSim_pure opPure_ord) ha.sim hb.sim)⟩
theorem qtgt (ha : QE X a ta pa) (hb : QE X b tb pb) : QT X (.Compare a [.Gt] [b] pos) (tTest (tOp (rOrd (fun i j => decide (j < i)) fun a b => decide (b < a)) ta tb)) (pTst (pOp (kP (gOrd (fun i j => decide (j < i)) fun a b => decide (b < a))) pa pb)) := ⟨pt_cmpR op_gtA ha.pe hb.pe (nomark _), simT_tst (sim_op (opSim_pure opPure_ord) ha.sim hb.sim)⟩
theorem qtge (ha : QE X a ta pa) (hb : QE X b tb pb) : QT X (.Compare a [.GtE] [b] pos) (tTest (tOp (rOrd (fun i j => decide (j ≤ i)) fun a b => !decide (a < b)) ta tb)) (pTst (pOp (kP (gOrd (fun i j => decide (j ≤ i)) fun a b => !decide (a < b))) pa pb)) := ⟨pt_cmpR op_geA ha.pe hb.pe (nomark _), simT_tst (sim_op (opSim_pure opPure_ord) ha.sim hb.sim)⟩
theorem qtin (hu : X.A.units + 65 < cLine) (ha : QE X a ta pa) (hb : QE X b tb pb) (hm : behindInMarks .In b = false := by first | rfl | with_unfolding_all rfl) : QT X (.Compare a [.In] [b] pos) (tTest (tOp (rInA X.K false) ta tb)) (pTst (pOp (kP (gIn false)) pa pb)) := ⟨pt_cmpR (op_inA hu) ha.pe hb.pe hm, simT_tst (sim_op (opSim_pure opPure_in) ha.sim hb.sim)⟩
theorem qtnin (hu : X.A.units + 65 < cLine) (ha : QE X a ta pa) (hb : QE X b tb pb) (hm : behindInMarks .NotIn b = false := by first | rfl | with_unfolding_all rfl) : QT X (.Compare a [.NotIn] [b] pos) (tTest (tOp (rInA X.K true) ta tb)) (pTst (pOp (kP (gIn true)) pa pb)) := ⟨pt_cmpR (op_notInA hu) ha.pe hb.pe hm, simT_tst (sim_op (opSim_pure opPure_in) ha.sim hb.sim)⟩
theorem qtis (ha : QE X a ta pa) (hb : QE X b tb pb) : QT X (.Compare a [.Is] [b] pos) (tTest (tOp rIsA ta tb)) (pTst (pOp (kP (gIs .bl)) pa pb)) := ⟨pt_cmpR op_isA ha.pe hb.pe (nomark _), simT_tst (sim_op (opSim_pure opPure_is) ha.sim hb.sim)⟩
theorem qtisn (ha : QE X a ta pa) (hb : QE X b tb pb) : QT X (.Compare a [.IsNot] [b] pos) (tTest (tOp rIsNotA ta tb)) (pTst (pOp (kP (gIs fun b => .bl (!b))) pa pb)) := ⟨pt_cmpR op_isNotA ha.pe hb.pe (nomark _), simT_tst (sim_op (opSim_pure opPure_isNot) ha.sim hb.sim)⟩
/-- any other expression as a test -/
theorem qtru (h : QE X e te pe) (he : ∀ whole, isTrue e X.env whole = (do let v ← whole; standAt e.pos; holding [v] (truthy v)) := by intro _; rfl) : QT X e (fun σ H Q => te σ H fun x H' => ∃ k, TruV X.K x H' k ∧ Q k H') (pTru pe) := ⟨pt_truth h.pe he, simT_tru h.sim⟩
variable {t u : TT} {q r : PT'}
theorem qtnot (h : QT X a t q) : QT X (.UnaryOp .Not a pos) (tNot t) (pNotT q) := ⟨pt_not h.pt, simT_not h.sim⟩
theorem qand1 (h : QT X a t q) : QW X (.BoolOp .And [a] pos) t q := ⟨pw_and1 h.pt, h.sim⟩
theorem qor1 (h : QT X a t q) : QW X (.BoolOp .Or [a] pos) t q := ⟨pw_or1 h.pt, h.sim⟩
theorem qand (h : QT X a t q) (h' : QW X (.BoolOp .And (b :: rest) pos) u r) : QW X (.BoolOp .And (a :: b :: rest) pos) (tAnd t u) (pAndT q r) := ⟨pw_and h.pt h'.pw, simT_and h.sim h'.sim⟩
theorem qor (h : QT X a t q) (h' : QW X (.BoolOp .Or (b :: rest) pos) u r) : QW X (.BoolOp .Or (a :: b :: rest) pos) (tOr t u) (pOrT q r) := ⟨pw_or h.pt h'.pw, simT_or h.sim h'.sim⟩
theorem qw (h : QW X a t q) : QT X a t q := ⟨h.pw.pt, h.sim⟩
theorem qvnot (h : QE X a ta pa) : QE X (.UnaryOp .Not a pos) (tNotV ta) (pNotV pa) := ⟨pe_not h.pe, sim_notV h.sim⟩
theorem qv1 {op} (h : QE X a ta pa) : QE X (.BoolOp op [a] pos) ta pa := ⟨pe_one h.pe, h.sim⟩
theorem qvand (h : QE X a ta pa) (h' : QE X (.BoolOp .And (b :: rest) pos) tb pb) : QE X (.BoolOp .And (a :: b :: rest) pos) (tAndV ta tb) (pAndV pa pb) := ⟨pe_and h.pe h'.pe, sim_andV h.sim h'.sim⟩
theorem qvor (h : QE X a ta pa) (h' : QE X (.BoolOp .Or (b :: rest) pos) tb pb) : QE X (.BoolOp .Or (a :: b :: rest) pos) (tOrV ta tb) (pOrV pa pb) := ⟨pe_or h.pe h'.pe, sim_orV h.sim h'.sim⟩
theorem qif (hc : QT X c t q) (ha : QE X a ta pa) (hb : QE X b tb pb) : QE X (.IfExp c a b pos) (tIf t ta tb) (pIf q pa pb) := ⟨pe_ifExp hc.pt ha.pe hb.pe, sim_if hc.sim ha.sim hb.sim⟩

/-! arguments, displays, calls -/
variable {tr : TA} {pr : PAs}
theorem qnil : QA X [] tNil pNil := ⟨pa_nil, simA_nil⟩
theorem qone (h : QE X e te pe) (hs : starEach (e :: []) X.env = (false, eval e X.env) :: starEach [] X.env := by rfl) : QA X [e] (tCons te tNil) (pOne pe) := ⟨pa_cons h.pe pa_nil hs, simA_one h.sim⟩
theorem qcons (h : QE X e te pe) (h' : QA X es tr pr) (hs : starEach (e :: es) X.env = (false, eval e X.env) :: starEach es X.env := by rfl) : QA X (e :: es) (tCons te tr) (pCons pe pr) := ⟨pa_cons h.pe h'.pa hs, simA_cons h.sim h'.sim⟩
theorem qlst (h : QA X es tr pr) : QE X (.List es pos) (tLst tr) (pLst pr) := ⟨pe_lst h.pa, sim_lst h.sim⟩
theorem qtup {k} (h : QA X es tr pr) : QE X (.Tuple es k pos) (tTup tr) (pTup pr) := ⟨pe_tup h.pa, sim_tup h.sim⟩
theorem qcb {x : Str} {id : String} {r : List V → Hp → VK → Prop} {k : KC} (hc : CallR X (.builtin id) r) (hk : CallSim X.K r k) (hm : X.mg x = none) (hv : bootBuiltins x = some (.builtin id)) (ha : QA X (e :: es) tr pr) (hg : Gl X x := by rfl) (hn : x ≠ "__name__" := by decide) (hdb : (x == ("__debug__" : Str)) = false := by decide)
    (he : starEach (e :: es) X.env = (false, eval e X.env) :: starEach es X.env := by rfl) (hpl : (backTo pos (starEach es X.env)).any (·.1) = false := by rfl) : QE X (.Call (.Name x p1) (e :: es) [] pos) (tCB r tr) (pCB k pr) := ⟨pe_callB hc hg hm hv ha.pa hn hdb he hpl, sim_cb hk ha.sim⟩
theorem qcty {x : Str} {T : String} {r : List V → Hp → VK → Prop} {k : KC} (hc : CallR X (.type T) r) (hk : CallSim X.K r k) (hm : X.mg x = none) (hv : bootBuiltins x = some (.type T)) (ha : QA X (e :: es) tr pr) (hg : Gl X x := by rfl) (hn : x ≠ "__name__" := by decide) (hdb : (x == ("__debug__" : Str)) = false := by decide)
    (he : starEach (e :: es) X.env = (false, eval e X.env) :: starEach es X.env := by rfl) (hpl : (backTo pos (starEach es X.env)).any (·.1) = false := by rfl) : QE X (.Call (.Name x p1) (e :: es) [] pos) (tCB r tr) (pCB k pr) := ⟨pe_callTy hc hg hm hv ha.pa hn hdb he hpl, sim_cb hk ha.sim⟩
theorem qlen (hm : X.mg "len" = none) (h : QE X e te pe) (hg : Gl X "len" := by rfl) (hs : starEach (e :: []) X.env = (false, eval e X.env) :: starEach [] X.env := by rfl) : QE X (.Call (.Name "len" p1) [e] [] pos) (tCB (fun xs H Q => ∃ x n, xs = [x] ∧ LenV X.K x H n ∧ Q (.int n) H) (tCons te tNil)) (pCB kLen (pOne pe)) := qcb call_len sim_len hm PySem.boot_len (qone h hs) hg (by decide) (by decide) hs rfl
theorem qisi {n : Expr} {s : String} (hm : X.mg "isinstance" = none) (h : QE X e te pe) (hn : QE X n (tC (.ty s)) (pC (.ty s))) (hg : Gl X "isinstance" := by rfl) (hs : starEach (e :: [n]) X.env = (false, eval e X.env) :: starEach [n] X.env := by rfl) (hs2 : starEach (n :: []) X.env = (false, eval n X.env) :: starEach [] X.env := by rfl) (hpl : (backTo pos (starEach [n] X.env)).any (·.1) = false := by rfl) :
    QE X (.Call (.Name "isinstance" p1) [e, n] [] pos) (tCB (rIsi X.K) (tCons te (tCons (tC (.ty s)) tNil))) (pCB (kCP gIsi) (pCons pe (pOne (pC (.ty s))))) := qcb call_isi (callSim_pure callPure_isi) hm PyProof.Rows.boot_isinstance (qcons h (qone hn hs2) hs) hg (by decide) (by decide) hs hpl
theorem qisi2 {n m : Expr} {s r : String} {k} (hm : X.mg "isinstance" = none) (h : QE X e te pe) (hn : QE X n (tC (.ty s)) (pC (.ty s))) (hn' : QE X m (tC (.ty r)) (pC (.ty r))) (hg : Gl X "isinstance" := by rfl)
    (hs : starEach (e :: [.Tuple [n, m] k p2]) X.env = (false, eval e X.env) :: starEach [.Tuple [n, m] k p2] X.env := by rfl) (hs2 : starEach (.Tuple [n, m] k p2 :: []) X.env = (false, eval (.Tuple [n, m] k p2) X.env) :: starEach [] X.env := by rfl) (hs3 : starEach (n :: [m]) X.env = (false, eval n X.env) :: starEach [m] X.env := by rfl) (hs4 : starEach (m :: []) X.env = (false, eval m X.env) :: starEach [] X.env := by rfl) (hpl : (backTo pos (starEach [.Tuple [n, m] k p2] X.env)).any (·.1) = false := by rfl) :
    QE X (.Call (.Name "isinstance" p1) [e, .Tuple [n, m] k p2] [] pos) (tCB (rIsiT X.K) (tCons te (tCons (tTup (tCons (tC (.ty s)) (tCons (tC (.ty r)) tNil))) tNil))) (pIsi2 s r pe) :=
  ⟨pe_callB call_isiT hg hm PyProof.Rows.boot_isinstance (pa_cons h.pe (pa_cons (pe_tup (pa_cons hn.pe (pa_cons hn'.pe pa_nil hs4) hs3)) pa_nil hs2) hs) (by decide) (by decide) hs hpl, sim_isi2 h.sim⟩
/-- a def of the text -/
theorem qcall {x : Str} {k n : Nat} {f : Addr} {fd : FuncData} {ps : List Str} {mu : Option Nat} {S : Spec'} (G : FnOk X.prog X.w X.K X.mg X.base CX0 k f fd ps (spQ X.K n mu S)) (hr : Room k X.A) (hm : X.mg x = some (.ref f)) (hk : PySem.W.keepIn X.K (.ref f) = true) (hb : Binds X.K fd ps []) (ha : QA X (e :: es) tr pr)
    (hg : Gl X x := by rfl) (hdb : (x == ("__debug__" : Str)) = false := by decide) (he : starEach (e :: es) X.env = (false, eval e X.env) :: starEach es X.env := by rfl) (hpl : (backTo pos (starEach es X.env)).any (·.1) = false := by rfl) : QE X (.Call (.Name x p1) (e :: es) [] pos) (tCall (spQ X.K n mu S) [] E0 tr) (pCall n mu S pr) :=
  ⟨pe_call G hr hg hm hk hb .nil pass0 ha.pa hdb he hpl, sim_call ha.sim⟩
theorem qcall0 {x : Str} {k n : Nat} {f : Addr} {fd : FuncData} {ps : List Str} {mu : Option Nat} {S : Spec'} (G : FnOk X.prog X.w X.K X.mg X.base CX0 k f fd ps (spQ X.K n mu S)) (hr : Room k X.A) (hm : X.mg x = some (.ref f)) (hk : PySem.W.keepIn X.K (.ref f) = true) (hb : Binds X.K fd ps [])
    (hg : Gl X x := by rfl) (hdb : (x == ("__debug__" : Str)) = false := by decide) : QE X (.Call (.Name x p1) [] [] pos) (tCall (spQ X.K n mu S) [] E0 tNil) (pCall n mu S pNil) :=
  ⟨pe_call0 G hr hg hm hk hb .nil pass0 hdb, sim_call simA_nil⟩
/-- x.append(e), x.pop() of the list in slot i -/
theorem qapp (i : Nat) {x : Str} (h : QE X e te pe) (hN : X.N[i]? = some x := by rfl) (hv : Vis X.env.scope x := by first | exact Or.inl rfl | exact Or.inr (Or.inl rfl) | exact Or.inr (Or.inr rfl)) (hd : (x == ("__debug__" : Str)) = false := by decide)
    (hcd : (x == ("__classdict__" : Str)) = false := by decide) (hbase : attributeBase (.Name x p1) "append" X.env (eval (.Name x p1) X.env) = eval (.Name x p1) X.env := by rfl)
    (hfew : ((backTo pos (starEach (e :: []) X.env)).all (fun x => !x.1) && (backToKw pos (keywordEach [] X.env)).all (fun x => x.1.isSome)
      && decide ((e :: []).length + ([] : List Keyword).length + (if ([] : List Keyword).isEmpty then 0 else 1) < 30)) = true := by rfl)
    (hline : (p2.endLine == pos.line) = true := by rfl) (hs : starEach (e :: []) X.env = (false, eval e X.env) :: starEach [] X.env := by rfl) (hplain : (backTo pos (starEach [] X.env)).any (·.1) = false := by rfl) :
    QE X (.Call (.Attribute (.Name x p1) "append" p2) [e] [] pos) (tBM X.K "list" rAppend (tVar i) (tCons te tNil)) (pAppend i pe) :=
  ⟨pe_bm PySem.F.plainAttrs_list PySem.F.slot_list_append PySem.F.type_list_append mt_append (pe_var hN hv hd hcd) (pa_cons h.pe pa_nil hs) hbase hfew hline hs hplain, sim_append h.sim⟩
theorem qpop (i : Nat) {x : Str} (hN : X.N[i]? = some x := by rfl) (hv : Vis X.env.scope x := by first | exact Or.inl rfl | exact Or.inr (Or.inl rfl) | exact Or.inr (Or.inr rfl)) (hd : (x == ("__debug__" : Str)) = false := by decide)
    (hcd : (x == ("__classdict__" : Str)) = false := by decide) (hbase : attributeBase (.Name x p1) "pop" X.env (eval (.Name x p1) X.env) = eval (.Name x p1) X.env := by rfl) (hline : (p2.endLine == pos.line) = true := by rfl) :
    QE X (.Call (.Attribute (.Name x p1) "pop" p2) [] [] pos) (tBM0 X.K "list" rPop (tVar i)) (pPop i) :=
  ⟨pe_bm0 PySem.F.plainAttrs_list PySem.F.slot_list_pop PySem.F.type_list_pop mt_pop (pe_var hN hv hd hcd) hbase hline, sim_pop⟩

/-! ranges as values -/
theorem qlistrg1 (hc : X.calm = true) (hm : X.mg "list" = none) (hr : X.mg "range" = none) (h : QE X e te pe) {q1 q2 : Pos} (hg : Gl X "list" := by rfl) (hg2 : Gl X "range" := by rfl) (na : starEach [e] X.env = (false, eval e X.env) :: starEach [] X.env := by rfl)
    (na2 : starEach [.Call (.Name "range" q1) [e] [] q2] X.env = (false, eval (.Call (.Name "range" q1) [e] [] q2) X.env) :: starEach [] X.env := by rfl) : QE X (.Call (.Name "list" p1) [.Call (.Name "range" q1) [e] [] q2] [] pos) (tLstRg (tRg1 te)) (pLstRg (rgArgs1 pe)) :=
  ⟨pe_listRg hc hg hm (prg_1 hg2 hr h.pe na) na2, sim_lstRg (simR_1 h.sim)⟩
theorem qtuprg1 (hc : X.calm = true) (hm : X.mg "tuple" = none) (hr : X.mg "range" = none) (h : QE X e te pe) {q1 q2 : Pos} (hg : Gl X "tuple" := by rfl) (hg2 : Gl X "range" := by rfl) (na : starEach [e] X.env = (false, eval e X.env) :: starEach [] X.env := by rfl)
    (na2 : starEach [.Call (.Name "range" q1) [e] [] q2] X.env = (false, eval (.Call (.Name "range" q1) [e] [] q2) X.env) :: starEach [] X.env := by rfl) : QE X (.Call (.Name "tuple" p1) [.Call (.Name "range" q1) [e] [] q2] [] pos) (tTupRg (tRg1 te)) (pTupRg (rgArgs1 pe)) :=
  ⟨pe_tupRg hc hg hm (prg_1 hg2 hr h.pe na) na2, sim_tupRg (simR_1 h.sim)⟩

/-! targets -/
theorem qgn {vs : List Nat} (i : Nat) {x : Str} (hN : X.N.Nodup) (hm : i ∈ vs := by decide) (hi : X.N[i]? = some x := by rfl) (hx : Loc X.env.scope x := by first | exact Or.inl rfl | exact Or.inr rfl) (hf : X.fn x = true ∨ X.env.scope.names.lookup x = some .local := by first | exact .inl rfl | exact .inr rfl | assumption) : QG X (.Name x pos) vs (gName i) (gN i) :=
  ⟨pg_name hN hi hx hf, simG_name, touch_name hm⟩
theorem qgnil {vs : List Nat} : QGs X [] vs gNil gsNil := ⟨pgs_nil, simGs_nil, touchs_nil⟩
theorem qgcons {vs : List Nat} (i : Nat) {x : Str} {gs : TGs} {pg : PGs'} (hN : X.N.Nodup) (h' : QGs X es vs gs pg) (hm : i ∈ vs := by decide) (hi : X.N[i]? = some x := by rfl) (hx : Loc X.env.scope x := by first | exact Or.inl rfl | exact Or.inr rfl) (hf : X.fn x = true ∨ X.env.scope.names.lookup x = some .local := by first | exact .inl rfl | exact .inr rfl | assumption)
    (hs : (assignEach (.Name x pos :: es) X.env).map (·.2) = assign (.Name x pos) X.env :: (assignEach es X.env).map (·.2) := by rfl) : QGs X (.Name x pos :: es) vs (gCons (gName i) gs) (gsCons (gN i) pg) :=
  ⟨pgs_cons (pg_name hN hi hx hf) h'.pgs hs, simGs_cons simG_name h'.sim, touchs_cons hm h'.tch⟩
theorem qgtup {vs : List Nat} {k n : Nat} {gs : TGs} {pg : PGs'} (hc : X.calm = true) (h : QGs X es vs gs pg) (hn : (assignEach es X.env).length = n := by rfl) (hst : (assignEach es X.env).findIdx? (·.1) = none := by rfl) : QG X (.Tuple es k pos) vs (gTup X.K n gs) (gT n pg) :=
  ⟨pg_tup hc h.pgs hn hst, simG_tup h.sim, touch_tup h.tch⟩

/-! what is walked -/
theorem qir1 {tg : Expr} (hm : X.mg "range" = none) (ha : QA X [a] tr pr) (hg : Gl X "range" := by rfl) (hs : starEach [a] X.env = [(false, eval a X.env)] := by rfl) : QI X tg (.Call (.Name "range" p1) [a] [] pos) (iRng1 tr) (pIA kR1 pr) := ⟨pi_range1 hg hm ha.pa hs, simI_r1 ha.sim⟩
theorem qir2 {tg : Expr} (hm : X.mg "range" = none) (ha : QA X [a, b] tr pr) (hg : Gl X "range" := by rfl) (hs : starEach [a, b] X.env = [(false, eval a X.env), (false, eval b X.env)] := by rfl) (hs2 : starEach [b] X.env = [(false, eval b X.env)] := by rfl) : QI X tg (.Call (.Name "range" p1) [a, b] [] pos) (iRng2 tr) (pIA kR2 pr) := ⟨pi_range2 hg hm ha.pa hs hs2, simI_r2 ha.sim⟩
theorem qiany {tg : Expr} (h : QE X e te pe) : QI X tg e (iAny X.K te) (pIter pe) := ⟨pi_any h.pe, simI_any h.sim⟩
end
section
variable {X : Cx} {st : Stmt} {rest body orelse : List Stmt} {t u : TS} {p q : PS'} {e c : Expr} {te : TE} {pe : PX} {tc : TT} {pc : PT'} {pos p1 : Pos}
/-! statements -/
theorem qsnil : QSs X [] tNext sNext := ⟨pss_nil, simS_next⟩
theorem qsone (h : QS X st t p) : QSs X [st] t p := ⟨pss_one h.ps, h.sim⟩
theorem qscons (h : QS X st t p) (h' : QSs X rest u q) : QSs X (st :: rest) (tSeq t u) (sSeq p q) := ⟨pss_cons h.ps h'.pss, simS_seq h.sim h'.sim⟩
theorem qpass : QS X (.Pass pos) tNext sNext := ⟨ps_pass, simS_next⟩
theorem qbreak : QS X (.Break pos) tBreak sBreak := ⟨ps_break, simS_break⟩
theorem qcontinue : QS X (.Continue pos) tCont sCont := ⟨ps_continue, simS_cont⟩
theorem qexpr (h : QE X e te pe) (hs : swapsWith e none pos.line X.env = pure false := by rfl) : QS X (.Expr e pos) (tDrop te) (sDrop pe) := ⟨ps_expr h.pe hs, simS_drop h.sim⟩
theorem qret (h : QE X e te pe) : QS X (.Return (some e) pos) (tRet te) (sRet pe) := ⟨ps_ret h.pe, simS_ret h.sim⟩
theorem qretn : QS X (.Return none pos) tRetN sRetN := ⟨ps_retN, simS_retN⟩
theorem qsif (hc : QT X c tc pc) (h : QSs X body t p) (h' : QSs X orelse u q) : QS X (.If c body orelse pos) (tIfS tc t u) (sIf pc p q) := ⟨ps_if hc.pt h.pss h'.pss, simS_if hc.sim h.sim h'.sim⟩
theorem qset (i : Nat) {x : Str} (hN : X.N.Nodup) (he : QE X e te pe) (hi : X.N[i]? = some x := by rfl) (hx : Loc X.env.scope x := by first | exact Or.inl rfl | exact Or.inr rfl) (hs : swapsWith e (some (.Name x p1)) pos.line X.env = pure false := by rfl) (hf : X.fn x = true ∨ X.env.scope.names.lookup x = some .local := by first | exact .inl rfl | exact .inr rfl | assumption) :
    QS X (.Assign [.Name x p1] e pos) (tAsg te (gName i)) (sAsg pe (gN i)) := ⟨ps_set hN hi hx he.pe hs hf, simS_asg he.sim simG_name⟩
theorem qasg {tg : Expr} {vs : List Nat} {g : TG} {pg : PG'} (he : QE X e te pe) (hg : QG X tg vs g pg) (hs : swapsWithSole [tg] e pos.line X.env = pure false := by rfl) (hw : swappedStores [tg] e X.env = pure none := by rfl)
    (h1 : (assignEach [tg] X.env).map (·.2) = [assign tg X.env] := by rfl) : QS X (.Assign [tg] e pos) (tAsg te g) (sAsg pe pg) := ⟨ps_asg he.pe hg.pg hs hw h1, simS_asg he.sim hg.sim⟩
/-- x[j] = e, x the list in slot i -/
theorem qsetix (i : Nat) {x : Str} {j : Expr} {tj : TE} {pj : PX} {p2 : Pos} (he : QE X e te pe) (hj : QE X j tj pj) (hN : X.N[i]? = some x := by rfl) (hv : Vis X.env.scope x := by first | exact Or.inl rfl | exact Or.inr (Or.inl rfl) | exact Or.inr (Or.inr rfl)) (hd : (x == ("__debug__" : Str)) = false := by decide)
    (hcd : (x == ("__classdict__" : Str)) = false := by decide)
    (ha : ∀ v, assign (.Subscript (.Name x p1) j p2) X.env v = (do
      let ov ← holding [v] (eval (.Name x p1) X.env)
      let iv ← holding [v, ov] (eval j X.env)
      standAt p2
      holding [v, ov, iv] (setItem ov iv v)
      release [v, ov, iv] []) := by intro _; rfl)
    (hs : swapsWithSole [.Subscript (.Name x p1) j p2] e pos.line X.env = pure false := by rfl) (hw : swappedStores [.Subscript (.Name x p1) j p2] e X.env = pure none := by rfl)
    (h1 : (assignEach [.Subscript (.Name x p1) j p2] X.env).map (·.2) = [assign (.Subscript (.Name x p1) j p2) X.env] := by rfl) :
    QS X (.Assign [.Subscript (.Name x p1) j p2] e pos) (tAsg te (gSub (tVar i) tj rSetL)) (sAsg pe (gSet i pj)) := ⟨ps_asg he.pe (pg_sub (pe_var hN hv hd hcd) hj.pe set_list ha) hs hw h1, simS_asg he.sim (simG_set hj.sim)⟩
/-- x += e: ints, texts -/
def rIAdd : TIp := fun x y H Q => rI0 (fun i j => .int (i + j)) x y H Q ∨ rAddS x y H Q
theorem ip_addAny : PIp X .Add rIAdd := OpR_or iop_add iop_add_str
def kIAdd : KO := fun x y ρ P => match res ρ x, res ρ y with
  | some (.int i), some (.int j) => P (.v true (.int (i + j))) ρ
  | some (.str a), some (.str b) => a.length + b.length ≤ sizeLine ∧ P (.v true (.str (a ++ b))) ρ
  | _, _ => False
theorem ipSim_add {K : PySem.W.Frag} : IpSim K rIAdd kIAdd := by
  intro M Z H0 F ns H σ ρ P Q x y v u S vx vy q k
  unfold kIAdd at q
  split at q
  · rename_i i j hx hy
    rw [vx.intV S hx, vy.intV S hy]
    exact .inl ⟨_, _, rfl, rfl, k _ _ H ns ρ S (.refl H) (.refl ρ) (.int _) q⟩
  · rename_i a b hx hy
    obtain ⟨s1, rfl, e1⟩ := vx.strV S hx
    obtain ⟨s2, rfl, e2⟩ := vy.strV S hy
    exact .inr ⟨_, _, rfl, rfl, by rw [str_len e1, str_len e2]; exact q.1, k _ _ H ns ρ S (.refl H) (.refl ρ) (.str (str_append e1 e2)) q.2⟩
  · exact q.elim
theorem qaugadd (i : Nat) {x : Str} (hN : X.N.Nodup) (he : QE X e te pe) (hi : X.N[i]? = some x := by rfl) (hx : Loc X.env.scope x := by first | exact Or.inl rfl | exact Or.inr rfl) (hf : X.fn x = true ∨ X.env.scope.names.lookup x = some .local := by first | exact .inl rfl | exact .inr rfl | assumption) :
    QS X (.AugAssign (.Name x p1) .Add e pos) (tAug i te rIAdd) (sAug i pe kIAdd) := ⟨ps_aug hN hi hx he.pe ip_addAny hf, simS_aug he.sim ipSim_add⟩
theorem qaugsub (i : Nat) {x : Str} (hN : X.N.Nodup) (he : QE X e te pe) (hi : X.N[i]? = some x := by rfl) (hx : Loc X.env.scope x := by first | exact Or.inl rfl | exact Or.inr rfl) (hf : X.fn x = true ∨ X.env.scope.names.lookup x = some .local := by first | exact .inl rfl | exact .inr rfl | assumption) :
    QS X (.AugAssign (.Name x p1) .Sub e pos) (tAug i te (ipI fun i j => i - j)) (sAug i pe (kP (gI0 fun i j => .int (i - j)))) := ⟨ps_aug hN hi hx he.pe ip_sub hf, simS_aug he.sim ipSim_I⟩
theorem qfor {tg : Expr} {vs : List Nat} {w : TI} {pi : PI'} {g : TG} {pg : PG'} (hp : PassesOwn (model X.prog X.w) X.A X.env X.xe) (hc : X.calm = true) (hi : QI X tg e w pi) (hg : QG X tg vs g pg) (hb : QSs X body t p) (hs : ∀ x, foldedSetIterable e X.env x = pure x := by intro _; rfl) :
    QS X (.For tg e body [] pos) (tFor w g t) (sFor pi pg p) := ⟨ps_for hp hc hi.pi hg.pg hb.pss hs, simS_for hi.sim hg.sim hb.sim⟩
theorem qwhile (hp : PassesOwn (model X.prog X.w) X.A X.env X.xe) (hc : QT X c tc pc) (hb : QSs X body t p) : QS X (.While c body [] pos) (tWhile tc t) (sWhile pc p) := ⟨ps_while hp hc.pt hb.pss, simS_while hc.sim hb.sim⟩

/-! comprehensions -/
def pYes : PT' := fun ρ P => P true ρ
theorem simT_yes {K : PySem.W.Frag} : SimT K tYes pYes := fun M Z H0 F ns H σ ρ P Q S hp k => k _ H ns ρ S (.refl H) (.refl ρ) hp
structure QTs (X : Cx) (ifs : List Expr) (t : TT) (p : PT') : Prop where
  pts : PTs X ifs t
  sim : SimT X.K t p
theorem qtsnil : QTs X [] tYes pYes := ⟨pts_nil, simT_yes⟩
theorem qtsone (h : QT X c tc pc) : QTs X [c] tc pc := ⟨pts_one h.pt, h.sim⟩
variable {elt tg iter : Expr} {ifs : List Expr} {scope : Scope} {own : List (Str × Nat)} {wi : TI} {pi : PI'} {g : TG} {pg : PG'} {tt : TT} {pt : PT'}
theorem qlc (hc : X.calm = true) (hN : X.N.Nodup) (hi : QI X tg iter wi pi) (ok : BlkOk X.N X.env.scope scope own)
    (hg : ∀ (s : Shared) (H : Hp) (C : Addr) (cl : List (Str × Addr)) (fp : List Addr), QG (X.blk s H scope (compEnvC scope cl C X.env) fp) tg (own.map (·.2)) g pg) (ht : ∀ (s : Shared) (H : Hp) (C : Addr) (cl : List (Str × Addr)) (fp : List Addr), QTs (X.blk s H scope (compEnvC scope cl C X.env) fp) ifs tt pt)
    (he : ∀ (s : Shared) (H : Hp) (C : Addr) (cl : List (Str × Addr)) (fp : List Addr), QE (X.blk s H scope (compEnvC scope cl C X.env) fp) elt te pe) (hs : ∀ x, foldedSetIterable iter X.env x = pure x := by intro _; rfl) :
    QE X (.ListComp elt [⟨tg, iter, ifs, 0⟩] scope pos) (tLc wi g tt te (own.map (·.2))) (pLc pi pg pt pe (own.map (·.2))) :=
  ⟨pe_lc hc hN hi.pi ok (fun s H C cl fp => (hg s H C cl fp).pg) (fun s H C cl fp => (ht s H C cl fp).pts) (fun s H C cl fp => (he s H C cl fp).pe) hs, sim_lc hi.sim (hg X.s_0 X.H_0 0 [] []).sim (hg X.s_0 X.H_0 0 [] []).tch (ht X.s_0 X.H_0 0 [] []).sim (he X.s_0 X.H_0 0 [] []).sim⟩
theorem qsetlc (i : Nat) {y : Str} {py spos : Pos} (hc : X.calm = true) (hN : X.N.Nodup) (hsw : swapsWith (.ListComp elt [⟨tg, iter, ifs, 0⟩] scope pos) (some (.Name y py)) spos.line X.env = pure true) (hi : QI X tg iter wi pi) (ok : BlkOk X.N X.env.scope scope own)
    (hg : ∀ (s : Shared) (H : Hp) (C : Addr) (cl : List (Str × Addr)) (fp : List Addr), QG (X.blk s H scope (compEnvC scope cl C X.env) fp) tg (own.map (·.2)) g pg) (ht : ∀ (s : Shared) (H : Hp) (C : Addr) (cl : List (Str × Addr)) (fp : List Addr), QTs (X.blk s H scope (compEnvC scope cl C X.env) fp) ifs tt pt)
    (he : ∀ (s : Shared) (H : Hp) (C : Addr) (cl : List (Str × Addr)) (fp : List Addr), QE (X.blk s H scope (compEnvC scope cl C X.env) fp) elt te pe) (hy : X.N[i]? = some y := by rfl) (hyl : X.env.scope.names.lookup y = some .local := by rfl) (hs : ∀ x, foldedSetIterable iter X.env x = pure x := by intro _; rfl) :
    QS X (.Assign [.Name y py] (.ListComp elt [⟨tg, iter, ifs, 0⟩] scope pos) spos) (tAsg (tLc wi g tt te (own.map (·.2))) (gName i)) (sAsg (pLc pi pg pt pe (own.map (·.2))) (gN i)) :=
  ⟨ps_setLc hc hN hy hyl hsw hi.pi ok (fun s H C cl fp => (hg s H C cl fp).pg) (fun s H C cl fp => (ht s H C cl fp).pts) (fun s H C cl fp => (he s H C cl fp).pe) hs, simS_asg (sim_lc hi.sim (hg X.s_0 X.H_0 0 [] []).sim (hg X.s_0 X.H_0 0 [] []).tch (ht X.s_0 X.H_0 0 [] []).sim (he X.s_0 X.H_0 0 [] []).sim) simG_name⟩
end
end Qq

namespace Qq
open PySem PySem.Spec PyProof.Rows L2
/-! ### instances of own classes: attributes, methods, the making -/
mutual
/-- no instance in it -/
def noObj : D → Bool
  | .tup ds => noObjs ds
  | .lst ds => noObjs ds
  | .lsr ds => noObjs ds
  | .obj _ _ _ _ => false
  | .dic _ ds => noObjs ds
  | .exn _ _ _ => false
  | _ => true
def noObjs : List D → Bool
  | [] => true
  | d :: ds => noObj d && noObjs ds
end
section
variable {K : PySem.W.Frag} {M : List Addr} {Z : Addr → Prop} {H0 H H' : Hp} {F G : Addr → Prop} {ns : Nat → List Addr} {σ : L2.St} {ρ : Sto}
mutual
theorem Rep.noObj : ∀ {v : V} {d : D} {ms : List Addr}, Rep K H v d ms → noObj d = true → ∀ b ∈ ms, ∀ C dx fs, H b ≠ some (.ins C dx fs)
  | _, _, _, .non, _, _, h => nomatch h
  | _, _, _, .bl _, _, _, h => nomatch h
  | _, _, _, .int _, _, _, h => nomatch h
  | _, _, _, .ty _, _, _, h => nomatch h
  | _, _, _, .cls _, _, _, h => nomatch h
  | _, _, _, .str _, _, _, h => nomatch h
  | _, _, _, .tup _ r, e, b, hb => RepL.noObj r (by rw [Qq.noObj] at e; exact e) b hb
  | _, _, _, .lst h r, e, b, hb => (List.mem_cons.mp hb).elim (fun q C dx fs z => by rw [q, h] at z; cases z) (RepL.noObj r (by rw [Qq.noObj] at e; exact e) b)
  | _, _, _, .lstR _ r, e, b, hb => RepL.noObj r (by rw [Qq.noObj] at e; exact e) b hb
  | _, _, _, .obj _ _ _ _, e, _, _ => by simp [Qq.noObj] at e
  | _, _, _, .dic h _ r, e, b, hb => (List.mem_cons.mp hb).elim (fun q C dx fs z => by rw [q, h] at z; cases z) (RepL.noObj r (by rw [Qq.noObj] at e; exact e) b)
  | _, _, _, .exn0 _, e, _, _ => by simp [Qq.noObj] at e
  | _, _, _, .exn1 _ _ _ _, e, _, _ => by simp [Qq.noObj] at e
theorem RepL.noObj : ∀ {vs : List V} {ds : List D} {ms : List Addr}, RepL K H vs ds ms → noObjs ds = true → ∀ b ∈ ms, ∀ C dx fs, H b ≠ some (.ins C dx fs)
  | _, _, _, .nil, _, _, h => nomatch h
  | _, _, _, .cons (d := d) (ds := ds) r t q, e, b, hb => by
    have e' : Qq.noObj d = true ∧ noObjs ds = true := by simpa [noObjs] using e
    rw [q] at hb
    exact (List.mem_append.mp hb).elim (Rep.noObj r e'.1 b) (RepL.noObj t e'.2 b)
end
/-! e.f -/
theorem lookup_zip {ks : List Str} {i : Nat} {f : Str} (nd : ks.Nodup) : ∀ {vs : List V} {v : V}, ks[i]? = some f → vs[i]? = some v → (ks.zip vs).lookup f = some v := by
  induction ks generalizing i with
  | nil => intro vs v h; simp at h
  | cons k ks ih =>
    intro vs v h1 h2
    cases vs with
    | nil => simp at h2
    | cons w vs =>
      cases i with
      | zero =>
        simp at h1 h2
        subst h1; subst h2
        simp [List.lookup]
      | succ i =>
        simp only [List.getElem?_cons_succ] at h1 h2
        have ne : (f == k) = false := by
          have : f ∈ ks := List.mem_of_getElem? h1
          have h3 := (List.nodup_cons.mp nd).1
          simp only [beq_eq_false_iff_ne, ne_eq]
          intro q; subst q; exact h3 this
        rw [List.zip_cons_cons, List.lookup, ne]
        exact ih (List.nodup_cons.mp nd).2 h1 h2
theorem lookup_zip_none {ks : List Str} {f : Str} : ∀ {vs : List V}, f ∉ ks → (ks.zip vs).lookup f = none := by
  induction ks with
  | nil => intro vs _; simp
  | cons k ks ih =>
    intro vs h
    cases vs with
    | nil => simp
    | cons w vs =>
      have ne : (f == k) = false := by
        simp only [beq_eq_false_iff_ne, ne_eq]
        intro q; subst q; exact h List.mem_cons_self
      rw [List.zip_cons_cons, List.lookup, ne]
      exact ih fun q => h (List.mem_cons_of_mem _ q)
/-- the instance that a value is -/
theorem VOk.obj (S : SR K M Z H0 F ns H σ ρ) {v : V} {x : Val} {i : Option Addr} {C : Str} {ks : List Str} {ds : List D} (k : VOk K Z H0 F ns H σ ρ v x) (h : res ρ x = some (.obj i C ks ds)) :
    ∃ a dx vs tl, v = .ref a ∧ H a = some (.ins (He.ga K C) dx (ks.zip vs)) ∧ ks.length = vs.length ∧ Items K Z H0 H ns ρ (resF ρ x) vs ds tl := by
  obtain ⟨ms, r, f, o, y⟩ := k.dat S h fun ds e => nomatch e
  cases r with
  | obj h1 hl _ r => exact ⟨_, _, _, _, rfl, h1, hl, r, fun e b hb => f e b (List.mem_cons_of_mem _ hb), fun i a ow hm => o i a ow (List.mem_cons_of_mem _ hm), fun b hb => y b (List.mem_cons_of_mem _ hb)⟩
def pAttr (C : Str) (ks : List Str) (i : Nat) (p : PX) : PX := fun ρ P => p ρ fun x ρ1 => match res ρ1 x with
  | some (.obj _ C' ks' ds) => C' = C ∧ ks' = ks ∧ ∃ d, ds[i]? = some d ∧ P (.v (resF ρ1 x) d) ρ1
  | _ => False
theorem sim_attr {C f : Str} {ks : List Str} {i : Nat} {t : TE} {p : PX} (cl : Cls K (He.ga K C)) (na : NoAttr K (He.ga K C) f) (hk : ks[i]? = some f) (nd : ks.Nodup) (h : Sim K t p) : Sim K (tFld K t f) (pAttr C ks i p) := fun M Z H0 F ns H σ ρ P Q S hp kk => by
  refine h M Z H0 F ns H σ ρ _ _ S hp fun x v H1 ns1 ρ1 S1 e1 d1 vx q => ?_
  split at q
  · rename_i ii C' ks' ds e
    obtain ⟨rfl, rfl, d, hd, q⟩ := q
    obtain ⟨a, dx, vs, tl, rfl, h1, hl, I⟩ := vx.obj S1 e
    obtain ⟨w, hw, vw⟩ := I.get (F := F) (σ := σ) hd
    exact ⟨a, _, dx, _, w, rfl, h1, cl, na, lookup_zip nd hk hw, kk _ _ H1 ns1 ρ1 S1 e1 d1 vw q⟩
  · exact q.elim
theorem qattr {X : Cx} {e : Expr} {te : TE} {pe : PX} {pos : Pos} {f : Str} (C : Str) (ks : List Str) (i : Nat) (cl : Cls X.K (He.ga X.K C)) (na : NoAttr X.K (He.ga X.K C) f) (h : QE X e te pe) (hk : ks[i]? = some f := by rfl) (nd : ks.Nodup := by decide +kernel)
    (hb : attributeBase e f X.env (eval e X.env) = eval e X.env := by rfl) : QE X (.Attribute e f pos) (tFld X.K te f) (pAttr C ks i pe) := ⟨pe_fld h.pe hb, sim_attr cl na hk nd h.sim⟩

/-! x.m(..) -/
def pMeth (C : Str) (ks : List Str) (n : Nat) (mu : Option Nat) (S : Spec') (po : PX) (p : PAs) : PX := fun ρ P => po ρ fun x ρ1 => match res ρ1 x with
  | some (.obj _ C' ks' _) => C' = C ∧ ks' = ks ∧ p ρ1 fun xs ρ2 => kCallQ n mu S (x.dn :: xs) ρ2 P
  | _ => False
theorem sim_meth {C m : Str} {ks : List Str} {n : Nat} {mu : Option Nat} {S : Spec'} {to : TE} {po : PX} {t : TA} {p : PAs} (hm : m ∉ ks) (ho : Sim K to po) (h : SimA K t p) : Sim K (tMeth (He.ga K C) m (spQ K n mu S) [] E0 to t) (pMeth C ks n mu S po p) := fun M Z H0 F ns H σ ρ P Q S' hp kk => by
  refine ho M Z H0 F ns H σ ρ _ _ S' hp fun x v H1 ns1 ρ1 S1 e1 d1 vx q => ?_
  split at q
  · rename_i ii C' ks' ds e
    obtain ⟨rfl, rfl, q⟩ := q
    obtain ⟨a, dx, vs, tl, rfl, h1, hl, I⟩ := vx.obj S1 e
    obtain ⟨G, g, gd, hold⟩ := vx.dn.hold (M := M)
    refine ⟨a, dx, _, rfl, h1, lookup_zip_none hm, ?_⟩
    refine h M Z H0 _ ns1 H1 σ ρ1 _ _ (S1.more g gd) q fun xs ws H2 ns2 ρ2 S2 e2 d2 vxs q => ?_
    have S2' : SR K M Z H0 F ns2 H2 σ ρ2 := S2.weak fun b h => .inl h
    have vx2 := hold _ ns2 H2 ρ2 (fun b h => .inr h) S2 e2 d2
    have pr : Paired (VOk K Z H0 F ns2 H2 σ ρ2) (V.ref a :: ws) (x.dn :: xs) := .cons vx2 (L2.Paired.mapP vxs fun _ _ z => z.weak fun b h => .inl h)
    refine callSim_spQ M Z H0 F ns2 H2 σ ρ2 P Q (x.dn :: xs) (V.ref a :: ws) S2' pr q fun y w H3 ns3 ρ3 S3 e3 d3 vy z => ?_
    exact kk y w H3 ns3 ρ3 S3 ((e1.trans (e2.weak fun b h => .inl h)).trans e3) ((d1.trans d2).trans d3) vy z
  · exact q.elim
/-- a method of the text, as its callers see it -/
def GotM (P : Program) (w : World) (K : PySem.W.Frag) (mg : Str → Option Value) (base : Heap) (k : Nat) (C m : Str) (ps : List Str) (n : Nat) (mu : Option Nat) (S : Spec') : Prop :=
  ∃ f fd, FnOk P w K mg base CX0 k f fd ps (spQ K n mu S) ∧ Meth K (He.ga K C) m f ∧ Binds K fd ps []
section
variable {X : Cx} {o e : Expr} {es : List Expr} {to : TE} {po : PX} {t : TA} {p : PAs} {pos apos : Pos} {C m : Str} {ks ps : List Str} {n k : Nat} {mu : Option Nat} {S : Spec'}
theorem qmeth {pl : Sem Bool} (g : GotM X.prog X.w X.K X.mg X.base k C m ps n mu S) (cl : Cls X.K (He.ga X.K C)) (ks : List Str) (hr : Room k X.A) (ho : QE X o to po) (ha : QA X (e :: es) t p) (hm : m ∉ ks := by decide +kernel)
    (hst : starEach (e :: es) X.env = (false, eval e X.env) :: starEach es X.env := by rfl) (hpl : (backTo pos (starEach es X.env)).any (·.1) = false := by rfl)
    (ht : eval (.Call (.Attribute o m apos) (e :: es) [] pos) X.env = (do
      let ov ← eval o X.env
      standAt apos.atName
      let (f, first) ← holding [ov] (getMethod ov m pl)
      callWith pos f first (backTo pos (starEach (e :: es) X.env)) (backToKw pos (keywordEach [] X.env))) := by rfl) :
    QE X (.Call (.Attribute o m apos) (e :: es) [] pos) (tMeth (He.ga X.K C) m (spQ X.K n mu S) [] E0 to t) (pMeth C ks n mu S po p) := by
  obtain ⟨f, fd, F, mt, b⟩ := g
  exact ⟨pe_meth (pl := pl) ho.pe cl mt F hr b .nil pass0 ha.pa hst hpl ht, sim_meth hm ho.sim ha.sim⟩
theorem qmeth0 {pl : Sem Bool} (g : GotM X.prog X.w X.K X.mg X.base k C m ps n mu S) (cl : Cls X.K (He.ga X.K C)) (ks : List Str) (hr : Room k X.A) (ho : QE X o to po) (hm : m ∉ ks := by decide +kernel)
    (ht : eval (.Call (.Attribute o m apos) [] [] pos) X.env = (do
      let ov ← eval o X.env
      standAt apos.atName
      let (f, first) ← holding [ov] (getMethod ov m pl)
      callWith pos f first (backTo pos (starEach [] X.env)) (backToKw pos (keywordEach [] X.env))) := by rfl) :
    QE X (.Call (.Attribute o m apos) [] [] pos) (tMeth (He.ga X.K C) m (spQ X.K n mu S) [] E0 to tNil) (pMeth C ks n mu S po pNil) := by
  obtain ⟨f, fd, F, mt, b⟩ := g
  exact ⟨pe_meth0 (pl := pl) ho.pe cl mt F hr b .nil pass0 ht, sim_meth hm ho.sim simA_nil⟩
end

/-! C(..) -/
/-- what a class's __init__ is worth: arguments, the instance's data -/
abbrev SpecI := List D → (D → Prop) → Prop
def spI (K : PySem.W.Frag) (n : Nat) (C : Str) (S : SpecI) : Sp := fun us H Q _ => ∃ (x dx : Addr) (vs : List V) (H0 : Hp) (ds : List D) (nss : Nat → List Addr) (P : D → Prop), us = .ref x :: vs ∧ vs.length = n ∧ H0 x = none ∧ H0 dx = none ∧ dx ≠ x ∧ H = upd (upd H0 dx (.own x)) x (.ins (He.ga K C) dx []) ∧
  ArgsOk K H0 none vs ds nss ∧ S ds P ∧ ∀ (d : D) (H' : Hp) (ms : List Addr), Rep K H' (.ref x) d ms → (∀ b ∈ ms, H0 b = none) → (∀ b o, H0 b = some o → H' b = some o) → P d → Q .non H'
def kMake (n : Nat) (S : SpecI) : KC := fun xs ρ1 P => match resAll ρ1 xs with
  | some ds => ds.length = n ∧ S ds fun d => P (.v true d) ρ1
  | none => False
def pMake (n : Nat) (S : SpecI) (p : PAs) : PX := fun ρ P => p ρ fun xs ρ1 => kMake n S xs ρ1 P
theorem sim_make {C : Str} {n : Nat} {S : SpecI} {t : TA} {p : PAs} (h : SimA K t p) : Sim K (tMake (He.ga K C) (spI K n C S) [] E0 t) (pMake n S p) := fun M Z H0 F ns H σ ρ P Q S' hp kk => by
  refine h M Z H0 F ns H σ ρ _ _ S' hp fun xs vs H1 ns1 ρ1 S1 e1 d1 vxs q => ?_
  unfold kMake at q
  split at q
  · rename_i ds e
    obtain ⟨hn, hS⟩ := q
    obtain ⟨nl, l1, l2, an⟩ := args_nodes S1 vxs e
    intro x dx hx hdx hne
    rw [List.append_nil]
    refine ⟨x, dx, vs, H1, ds, fun j => nl.getD j [], _, rfl, l2.trans hn, hx, hdx, hne, rfl, ⟨l2, fun i d hd => let ⟨v, _, a1, _, _, _, a5, _⟩ := an i d hd; ⟨v, a1, a5⟩, fun m z => nomatch z⟩, hS, fun d H' ms r fr keep hP => ⟨rfl, ?_⟩⟩
    have sm : Same H1 H' := fun b o z => keep b o z
    refine kk (.v true d) (.ref x) H' ns1 ρ1 (S1.grow sm) (e1.trans (.same sm)) d1 (.v r (fun _ b hb => S1.fresh (fr b hb)) (fun i a ow hm => ?_) fun b hb q => ?_) hP
    · exact S1.notIn (fr a hm) i ow.mem
    · obtain ⟨o, e⟩ := S1.zdm _ q
      rw [fr b hb] at e; cases e
  · exact q.elim
def GotI (P : Program) (w : World) (K : PySem.W.Frag) (mg : Str → Option Value) (base : Heap) (k : Nat) (C : Str) (ps : List Str) (n : Nat) (S : SpecI) : Prop :=
  ∃ f fd, FnOk P w K mg base CX0 k f fd ps (spI K n C S) ∧ Mk K (He.ga K C) f ∧ mg C = some (.ref (He.ga K C)) ∧ Binds K fd ps []
section
variable {X : Cx} {e : Expr} {es : List Expr} {t : TA} {p : PAs} {pos p1 : Pos} {C : Str} {ps : List Str} {n k : Nat} {S : SpecI}
theorem qmake (g : GotI X.prog X.w X.K X.mg X.base k C ps n S) (hr : Room (k + 1) X.A) (ha : QA X (e :: es) t p) (hg : Gl X C := by rfl) (hdb : (C == ("__debug__" : Str)) = false := by decide) (he : starEach (e :: es) X.env = (false, eval e X.env) :: starEach es X.env := by rfl)
    (hpl : (backTo pos (starEach es X.env)).any (·.1) = false := by rfl) : QE X (.Call (.Name C p1) (e :: es) [] pos) (tMake (He.ga X.K C) (spI X.K n C S) [] E0 t) (pMake n S p) := by
  obtain ⟨f, fd, F, mk, hm, b⟩ := g
  exact ⟨pe_make mk F hr hg hm b .nil pass0 ha.pa hdb he hpl, sim_make ha.sim⟩
theorem qmake0 (g : GotI X.prog X.w X.K X.mg X.base k C ps n S) (hr : Room (k + 1) X.A) (hg : Gl X C := by rfl) (hdb : (C == ("__debug__" : Str)) = false := by decide) :
    QE X (.Call (.Name C p1) [] [] pos) (tMake (He.ga X.K C) (spI X.K n C S) [] E0 tNil) (pMake n S pNil) := by
  obtain ⟨f, fd, F, mk, hm, b⟩ := g
  exact ⟨pe_make0 mk F hr hg hm b .nil pass0 hdb, sim_make simA_nil⟩
end

/-! the body of an __init__ -/
def SimU (K : PySem.W.Frag) (t : TS) (p : PS') : Prop := ∀ (H0 : Hp) (ns : Nat → List Addr) (H : Hp) (σ : L2.St) (ρ : Sto) (E : PEn) (D : Ends),
  SR K [] (fun _ => False) H0 (fun _ => False) ns H σ ρ → p E ρ → (∀ σ' H' ns' ρ', SR K [] (fun _ => False) H0 (fun _ => False) ns' H' σ' ρ' → E.nx ρ' → D.nx σ' H') →
  (∀ x v σ' H' ns' ρ', SR K [] (fun _ => False) H0 (fun _ => False) ns' H' σ' ρ' → VOk K (fun _ => False) H0 (fun _ => False) ns' H' σ' ρ' v x → E.rt x ρ' → D.rt v H') → (∀ ρ', ¬ E.bk ρ') → (∀ ρ', ¬ E.ct ρ') → t D σ H
theorem simU_of {t : TS} {p : PS'} (h : SimS K t p) : SimU K t p := fun H0 ns H σ ρ E D S hp kn kr kb kc =>
  h [] _ H0 _ ns H σ ρ E D S hp (fun σ' H' ns' ρ' S' _ z => kn σ' H' ns' ρ' S' z) (fun x v σ' H' ns' ρ' S' _ vx z => kr x v σ' H' ns' ρ' S' vx z) (fun _ _ _ ρ' _ _ z => (kb ρ' z).elim) (fun _ _ _ ρ' _ _ z => (kc ρ' z).elim)
theorem simU_seq {t u : TS} {p q : PS'} (h : SimU K t p) (h' : SimU K u q) : SimU K (tSeq t u) (sSeq p q) := fun H0 ns H σ ρ E D S hp kn kr kb kc =>
  h H0 ns H σ ρ _ _ S hp (fun σ1 H1 ns1 ρ1 S1 z => h' H0 ns1 H1 σ1 ρ1 E D S1 z kn kr kb kc) kr kb kc
def noCel : Cel → Bool
  | .sh _ d => noObj d
  | .ow _ _ ds => noObjs ds
  | .tr _ d => noObj d
def noCells : Sto → Bool
  | [] => true
  | none :: r => noCells r
  | some c :: r => noCel c && noCells r
/-- self.f = e, a new one -/
def kSetA (C : Str) (ks : List Str) (f : Str) (y : Val) (ρ1 : Sto) (N : Sto → Prop) : Prop := match put ρ1 y, res (put ρ1 y) y with
  | some (.sh true (.obj i C' ks' ds)) :: rest, some d => C' = C ∧ ks' = ks ∧ noObj d = true ∧ noObjs ds = true ∧ noCells rest = true ∧ (resF (put ρ1 y) y || imm d) = true ∧ N (some (.sh true (.obj i C (ks ++ [f]) (ds ++ [d]))) :: rest)
  | _, _ => False
def sSetA (C : Str) (ks : List Str) (f : Str) (p : PX) : PS' := fun E ρ => p ρ fun y ρ1 => kSetA C ks f y ρ1 E.nx
theorem putF_new {f : Str} {y : V} : ∀ {ks : List Str} {vs : List V}, f ∉ ks → ks.length = vs.length → putF f y (ks.zip vs) = (ks ++ [f]).zip (vs ++ [y]) := by
  intro ks
  induction ks with
  | nil =>
    intro vs _ h
    cases vs with
    | nil => rfl
    | cons _ _ => cases h
  | cons k ks ih =>
    intro vs hf h
    cases vs with
    | nil => cases h
    | cons v vs =>
      have ne : k ≠ f := fun q => hf (q ▸ List.mem_cons_self)
      simp only [List.zip_cons_cons, List.cons_append]
      rw [putF, if_neg ne, ih (fun q => hf (List.mem_cons_of_mem _ q)) (by simpa using h)]
theorem noCells_get : ∀ {rest : Sto}, noCells rest = true → ∀ {j : Nat} {c : Cel}, rest[j]? = some (some c) → noCel c = true
  | [], _, j, c, e => by simp at e
  | none :: r, h, 0, c, e => by simp at e
  | none :: r, h, j + 1, c, e => noCells_get (rest := r) (by simpa [noCells] using h) (j := j) (by simpa using e)
  | some d :: r, h, 0, c, e => by
    simp at e; subst e
    simp [noCells] at h; exact h.1
  | some d :: r, h, j + 1, c, e => noCells_get (rest := r) (by simp [noCells] at h; exact h.2) (j := j) (by simpa using e)
theorem CelOk.noIns {v : V} {c : Cel} {m : List Addr} (ok : CelOk K M H0 H v c m) (h : noCel c = true) : ∀ b ∈ m, ∀ C dx fs, H b ≠ some (.ins C dx fs) := by
  cases ok with
  | sh r f => exact r.noObj h
  | ow h1 r n f g hk => exact fun b hb => (List.mem_cons.mp hb).elim (fun q C dx fs z => by rw [q, h1] at z; cases z) (r.noObj h b)
  | tr r n f g => exact r.noObj h
theorem simU_setA {C f : Str} {ks : List Str} {t : TE} {p : PX} (cl : Cls K (He.ga K C)) (na : NoAttr K (He.ga K C) f) (hf : f ∉ ks) (hl : ks.length < 1000) (h : Sim K t p) : SimU K (sFld K (tVar 0) t f) (sSetA C ks f p) := fun H0 ns H σ ρ E D S hp kn kr kb kc => by
  refine h [] _ H0 _ ns H σ ρ _ _ S hp fun y v H1 ns1 ρ1 S1 e1 d1 vy q => ?_
  have S2 := put_sr S1 y
  have vy2 := vy.move (put_dom ρ1 y) fun _ _ => put_own (x := y)
  have aw := put_away (ρ := ρ1) (ns := ns1) (x := y)
  unfold kSetA at q
  generalize put ρ1 y = ρ2 at q S2 vy2 aw
  split at q
  · rename_i _ _ ii C' ks' ds rest d hd
    obtain ⟨rfl, rfl, n1, n2, n3, fz, q⟩ := q
    have c0 : (some (Cel.sh true (.obj ii C' ks' ds)) :: rest : Sto)[0]? = some (some (.sh true (.obj ii C' ks' ds))) := rfl
    obtain ⟨w, ew, ok⟩ := S2.cel 0 _ c0
    obtain ⟨ms, r, ff, o, y'⟩ := vy2.any S2 aw hd
    generalize hn0 : ns1 0 = m0 at ok
    cases ok with
    | sh r0 f0 =>
    cases r0 with
    | @obj a dx _ _ _ vs _ tl h1 hkl hid rl =>
    refine ⟨_, ew, a, _, dx, _, rfl, h1, cl, na, by rw [List.length_zip]; omega, ?_⟩
    rw [putF_new hf hkl]
    have anl : a ∉ tl := fun q => RepL.noObj rl n2 a q _ _ _ h1
    have anm : a ∉ ms := fun q => Rep.noObj r n1 a q _ _ _ h1
    have ex : Ext (fun b => b ≠ a) H1 (upd H1 a (.ins (He.ga K C') dx ((ks' ++ [f]).zip (vs ++ [v])))) := by
      refine ⟨fun b o q e => by rw [upd_ne q]; exact e, fun b xs e => ?_, fun b o u e => ?_, fun b e => ?_⟩
      · rw [upd_ne (fun q => by rw [q, h1] at e; cases e)]; exact e
      · rw [upd_ne (fun q => by rw [q, h1] at e; cases e)]; exact e
      · by_cases q : b = a
        · rw [q, upd_same] at e; cases e
        · rw [upd_ne q] at e; exact e
    have a0 : H0 a = none := f0 rfl a List.mem_cons_self
    have fm : ∀ b ∈ ms, H0 b = none := fun b hb => by
      rcases Bool.or_eq_true_iff.mp fz with z | z
      · exact ff z b hb
      · rw [r.imm z] at hb; cases hb
    refine kn σ _ (fun j => if j = 0 then a :: (tl ++ ms) else ns1 j) _ ⟨by have := S2.len; simpa using this, fun j c hc => ?_, fun j hj => ?_, fun i j b ow hij => ?_, fun _ _ _ z => z, fun b ob hb hm => ?_, fun b hb => (nomatch hb), fun _ z => z.elim, fun _ _ _ z => z, fun _ z => z.elim⟩ q
    · cases j with
      | zero =>
        cases hc
        refine ⟨_, ew, ?_⟩
        simp only [if_pos]
        refine .sh (.obj upd_same (by simp [hkl]) hid ((rl.frame ex fun b hb q => anl (q ▸ hb)).append (RepL.one (r.frame ex fun b hb q => anm (q ▸ hb))))) fun _ b hb => ?_
        rcases List.mem_cons.mp hb with z | z
        · rw [z]; exact a0
        · exact (List.mem_append.mp z).elim (fun z => f0 rfl b (List.mem_cons_of_mem _ z)) (fm b)
      | succ j =>
        have hc' : (some (Cel.sh true (.obj ii C' ks' ds)) :: rest : Sto)[j + 1]? = some (some c) := by simpa using hc
        obtain ⟨u, eu, ok⟩ := S2.cel (j + 1) c hc'
        refine ⟨u, eu, ?_⟩
        simp only [if_neg (Nat.succ_ne_zero j)]
        have na' : ∀ b ∈ ns1 (j + 1), b ≠ a := fun b hb q => CelOk.noIns ok (noCells_get n3 (by simpa using hc)) b hb _ _ _ (q ▸ h1)
        generalize ns1 (j + 1) = m at ok na'
        cases ok with
        | sh r f => exact .sh (r.frame ex na') f
        | ow h1 r n f g hk => exact .ow (ex.keep _ _ (na' _ List.mem_cons_self) h1) (r.frame ex fun b hb => na' b (List.mem_cons_of_mem _ hb)) n f g hk
        | tr r n f g => exact .tr (r.frame ex na') n f g
    · cases j with
      | zero => exact absurd rfl (hj _)
      | succ j =>
        simp only [if_neg (Nat.succ_ne_zero j)]
        exact S2.emp (j + 1) fun c hc => hj c (by simpa using hc)
    · cases i with
      | zero => exact (ow.noSh (fr := true) rfl).elim
      | succ i =>
        have ow' : Own (some (Cel.sh true (.obj ii C' ks' ds)) :: rest) ns1 (i + 1) b := ow.congr (by simp) (if_neg (Nat.succ_ne_zero i))
        by_cases hj : j = 0
        · subst hj
          simp only [if_pos]
          have z := S2.exc (i + 1) 0 b ow' hij
          rw [hn0] at z
          intro hb
          rcases List.mem_cons.mp hb with p | p
          · exact z (p ▸ List.mem_cons_self)
          · exact (List.mem_append.mp p).elim (fun p => z (List.mem_cons_of_mem _ p)) (o (i + 1) b ow')
        · simp only [if_neg hj]
          exact S2.exc (i + 1) j b ow' hij
    · rw [upd_ne (fun q => by rw [q, a0] at hb; cases hb)]
      exact S2.ent b ob hb hm
  · exact q.elim
/-! the judgements -/
structure QU (X : Cx) (st : Stmt) (t : TS) (p : PS') : Prop where
  ps : PS X st t
  sim : SimU X.K t p
structure QUs (X : Cx) (st : List Stmt) (t : TS) (p : PS') : Prop where
  pss : PSs X st t
  sim : SimU X.K t p
section
variable {X : Cx} {st : Stmt} {rest : List Stmt} {t u : TS} {p q : PS'} {pos pos' p1 : Pos} {e : Expr} {te : TE} {pe : PX} {self f C : Str} {ks : List Str}
theorem qu_of (h : QS X st t p) : QU X st t p := ⟨h.ps, simU_of h.sim⟩
theorem qu_setA {c} (C : Str) (ks : List Str) (cl : Cls X.K (He.ga X.K C)) (na : NoAttr X.K (He.ga X.K C) f) (hs : QE X (.Name self p1) (tVar 0) c) (h : QE X e te pe) (hf : f ∉ ks := by decide +kernel) (hl : ks.length < 1000 := by decide)
    (hsw : swapsWith e (some (.Attribute (.Name self p1) f pos')) pos.line X.env = pure false := by rfl) : QU X (.Assign [.Attribute (.Name self p1) f pos'] e pos) (sFld X.K (tVar 0) te f) (sSetA C ks f pe) := ⟨ps_fld hs.pe h.pe hsw, simU_setA cl na hf hl h.sim⟩
end

section
variable {X : Cx} {st : Stmt} {rest : List Stmt} {t u : TS} {p q : PS'}
theorem quone (h : QU X st t p) : QUs X [st] t p := ⟨pss_one h.ps, h.sim⟩
theorem qucons (h : QU X st t p) (h' : QUs X rest u q) : QUs X (st :: rest) (tSeq t u) (sSeq p q) := ⟨pss_cons h.ps h'.pss, simU_seq h.sim h'.sim⟩
theorem quder {bd : List Stmt} (h : QUs X bd t p) : ∃ t, PSs X bd t ∧ SimU X.K t p := ⟨t, h.pss, h.sim⟩
end
/-! the rule for an __init__ -/
def endI (x : Addr) (P : D → Prop) (ρ : Sto) : Prop := match ρ with
  | some (.sh true (.obj i C ks ds)) :: _ => i = some x ∧ P (.obj none C ks ds)
  | _ => False
def endsI (x : Addr) (P : D → Prop) : PEn := { nx := endI x P, rt := fun _ _ => False }
def entryI (x : Addr) (C : Str) (n : Nat) (ds : List D) : Sto := some (.sh true (.obj (some x) C [] [])) :: (cellsFrom' none 1 ds ++ List.replicate n none)
theorem entryI_get {x : Addr} {C : Str} {n : Nat} {ds : List D} {j : Nat} {c : Cel} (h : (entryI x C n ds)[j + 1]? = some (some c)) : ∃ d, ds[j]? = some d ∧ c = .sh false d := by
  unfold entryI at h
  simp only [List.getElem?_cons_succ] at h
  by_cases hj : j < ds.length
  · rw [List.getElem?_append_left (by rw [cellsFrom'_len]; exact hj), cellsFrom'_get] at h
    rw [List.getElem?_eq_getElem hj] at h ⊢
    simp only [Option.map_some] at h
    refine ⟨_, rfl, ?_⟩
    have := (Option.some.inj (Option.some.inj h)).symm
    rw [this]
    unfold cellOf
    split
    · rename_i e; rw [if_neg (fun z => nomatch z), e]
    · rfl
  · rw [List.getElem?_append_right (by rw [cellsFrom'_len]; omega), List.getElem?_replicate] at h
    split at h <;> cases h
theorem entryI_sr {C : Str} {N : List Str} {vs : List V} {ds : List D} {nss : Nat → List Addr} {x dx : Addr} (A : ArgsOk K H none vs ds nss) (hx : H x = none) (hdx : H dx = none) (hne : dx ≠ x) (hN : vs.length + 1 ≤ N.length) :
    SR K [] (fun _ => False) H (fun _ => False) (fun j => match j with
      | 0 => [x]
      | j + 1 => if j < ds.length then nss j else []) (upd (upd H dx (.own x)) x (.ins (He.ga K C) dx [])) (L2.start N (.ref x :: vs)) (entryI x C (N.length - (vs.length + 1)) ds) := by
  have sm : Same H (upd (upd H dx (.own x)) x (.ins (He.ga K C) dx [])) := fun b o e => by
    rw [upd_ne (ne_of_none e hx), upd_ne (ne_of_none e hdx)]; exact e
  have noOwn : ∀ {g : Nat → List Addr} {j a}, ¬ Own (entryI x C (N.length - (vs.length + 1)) ds) g j a := fun {g j a} ow => by
    obtain ⟨c, e⟩ := ow.cell
    cases j with
    | zero => exact (ow.noSh (fr := true) rfl).elim
    | succ j =>
      obtain ⟨d, _, hc⟩ := entryI_get e
      subst hc
      exact (ow.noSh e).elim
  refine ⟨?_, fun j c hc => ?_, fun j hj => ?_, fun j m a ow hjm => (noOwn ow).elim, fun _ _ _ h => h, fun b o e _ => sm b o e, fun b hb => (nomatch hb), fun _ h => h.elim, fun _ _ _ h => h, fun _ h => h.elim⟩
  · simp only [L2.start, entryI, List.length_append, List.length_map, List.length_replicate, cellsFrom'_len, A.len, List.length_cons]
    omega
  · cases j with
    | zero =>
      cases hc
      refine ⟨.ref x, ?_, .sh ?_ fun _ b hb => by rw [List.mem_singleton.mp hb]; exact hx⟩
      · unfold L2.start; rfl
      · exact .obj (vs := []) upd_same rfl (fun y e => (Option.some.inj e).symm) .nil
    | succ j =>
      obtain ⟨d, hd, rfl⟩ := entryI_get hc
      have hj : j < ds.length := (List.getElem?_eq_some_iff.mp hd).1
      obtain ⟨v, e, r⟩ := A.rep j d hd
      refine ⟨v, ?_, ?_⟩
      · unfold L2.start
        rw [List.map_cons, List.cons_append, List.getElem?_cons_succ, List.getElem?_append_left (by rw [List.length_map]; exact (List.getElem?_eq_some_iff.mp e).1), List.getElem?_map, e]
        rfl
      · simp only [if_pos hj]
        exact .sh (r.frame (Ext.same (F := fun _ => True) sm) fun _ _ => trivial) fun z => nomatch z
  · cases j with
    | zero => exact absurd rfl (hj _)
    | succ j =>
      by_cases h : j < ds.length
      · have hc : (entryI x C (N.length - (vs.length + 1)) ds)[j + 1]? = some (some (cellOf none (1 + j) ds[j])) := by
          unfold entryI
          rw [List.getElem?_cons_succ, List.getElem?_append_left (by rw [cellsFrom'_len]; exact h), cellsFrom'_get, List.getElem?_eq_getElem h]
          rfl
        exact absurd hc (hj _)
      · simp only [if_neg h]
theorem okI {P : Program} {w : World} {mg : Str → Option Value} {base : Heap} {x qual : Str} {params : Arguments} {bd : List Stmt} {scope : Scope} {dvs : List V} {kws : List (Str × V)} {f : Addr} {fd : FuncData} {N ps : List Str} {k n : Nat} {C : Str} {S : SpecI} {body : PS'}
    (Fn : FunD K x qual params bd scope dvs kws f fd) (sc : FnScope N ps scope) (hn : ps.length = n + 1)
    (der : ∀ (cdv : Value) (A : Around) (outer : List Env) (s : Shared) (H : Hp) (E : XK), Room k (A.deeper (envOfC qual scope s.heap.objs.size f cdv)) → ∃ t, PSs (cxOf CX0 P w K mg base N qual scope f cdv A outer s H E).nox bd t ∧ SimU K t body)
    (pur : ∀ x ds Q, ds.length = n → S ds Q → body (endsI x Q) (entryI x C (N.length - ps.length) ds)) : FnOk P w K mg base CX0 (k + 1) f fd ps (spI K n C S) := by
  refine Fn.ok sc (fun vs H Q E h => ?_) (fun cdv A outer s H vs Q E hr h => ?_)
  · obtain ⟨x, dx, ws, H0, ds, nss, P', rfl, hl, _⟩ := h
    rw [List.length_cons, hl, hn]
  · obtain ⟨x, dx, ws, H0, ds, nss, P', rfl, hl, hx, hdx, hne, rfl, A', hS, hk⟩ := h
    obtain ⟨t, h1, h2⟩ := der cdv A outer s _ E hr
    refine ⟨t, PSs.nox h1, ?_⟩
    have hN : ws.length + 1 ≤ N.length := by
      have := congrArg List.length sc.pre
      rw [List.length_take] at this
      omega
    have S0 := entryI_sr (C := C) A' hx hdx hne hN
    have p0 := pur x ds P' (A'.len.symm.trans hl) hS
    rw [hn, ← hl] at p0
    refine h2 _ _ _ _ _ (endsI x P') _ S0 p0 (fun σ' H' ns' ρ' S' q => ?_) (fun x v σ' H' ns' ρ' S' vx q => q.elim) (fun _ q => q.elim) (fun _ q => q.elim)
    replace q : endI x P' ρ' := q
    unfold endI at q
    split at q
    · rename_i i C' ks' es rest
      obtain ⟨rfl, q⟩ := q
      obtain ⟨v, e, ok⟩ := S'.cel 0 _ rfl
      generalize ns' 0 = m at ok
      cases ok with
      | sh r f =>
      cases r with
      | @obj a dx' _ _ _ vs' _ tl g1 g2 g3 r =>
      have ea := g3 x rfl
      subst ea
      exact hk _ H' _ (.obj (i := none) g1 g2 (fun _ z => by cases z) r) (f rfl) (fun b o hb => S'.ent b o hb (fun z => nomatch z)) q
    · exact q.elim
end
end Qq

namespace Qq
open PySem PySem.Spec PyProof.Rows L2
section
variable {X : Cx} {a b c e : Expr} {es rest : List Expr} {ta tb tc te : TE} {pa pb pc pe : PX} {pos p1 p2 : Pos} {tr : TA} {pr : PAs}
theorem qir3 {tg : Expr} (hm : X.mg "range" = none) (ha : QA X [a, b, c] tr pr) (hg : Gl X "range" := by rfl) (hs : starEach [a, b, c] X.env = (false, eval a X.env) :: starEach [b, c] X.env := by rfl) (hpl : (backTo pos (starEach [b, c] X.env)).any (·.1) = false := by rfl) :
    QI X tg (.Call (.Name "range" p1) [a, b, c] [] pos) (iRng3 tr) (pIA kR3 pr) := ⟨pi_range3 hg hm ha.pa hs hpl, simI_r3 ha.sim⟩
theorem qlstrg1 (hc : X.calm = true) (hm : X.mg "list" = none) (hr : X.mg "range" = none) (h : QE X e te pe) {q1 q2 : Pos} (hg : Gl X "list" := by rfl) (hg2 : Gl X "range" := by rfl) (na : starEach [e] X.env = (false, eval e X.env) :: starEach [] X.env := by rfl)
    (na2 : starEach [.Call (.Name "range" q1) [e] [] q2] X.env = (false, eval (.Call (.Name "range" q1) [e] [] q2) X.env) :: starEach [] X.env := by rfl) : QE X (.Call (.Name "list" p1) [.Call (.Name "range" q1) [e] [] q2] [] pos) (tLstRg (tRg1 te)) (pLstRg (rgArgs1 pe)) :=
  qlistrg1 hc hm hr h hg hg2 na na2
theorem qtuprg2 (hc : X.calm = true) (hm : X.mg "tuple" = none) (hr : X.mg "range" = none) (h : QE X a ta pa) (h' : QE X b tb pb) {q1 q2 : Pos} (hg : Gl X "tuple" := by rfl) (hg2 : Gl X "range" := by rfl) (na : starEach [a, b] X.env = (false, eval a X.env) :: starEach [b] X.env := by rfl) (nb : starEach [b] X.env = (false, eval b X.env) :: starEach [] X.env := by rfl)
    (hp : (backTo q2 (starEach [b] X.env)).any (·.1) = false := by rfl)
    (na2 : starEach [.Call (.Name "range" q1) [a, b] [] q2] X.env = (false, eval (.Call (.Name "range" q1) [a, b] [] q2) X.env) :: starEach [] X.env := by rfl) : QE X (.Call (.Name "tuple" p1) [.Call (.Name "range" q1) [a, b] [] q2] [] pos) (tTupRg (tRg2 ta tb)) (pTupRg (rgArgs2 pa pb)) :=
  ⟨pe_tupRg hc hg hm (prg_2 hg2 hr h.pe h'.pe na nb hp) na2, sim_tupRg (simR_2 h.sim h'.sim)⟩
theorem qlstrg2 (hc : X.calm = true) (hm : X.mg "list" = none) (hr : X.mg "range" = none) (h : QE X a ta pa) (h' : QE X b tb pb) {q1 q2 : Pos} (hg : Gl X "list" := by rfl) (hg2 : Gl X "range" := by rfl) (na : starEach [a, b] X.env = (false, eval a X.env) :: starEach [b] X.env := by rfl) (nb : starEach [b] X.env = (false, eval b X.env) :: starEach [] X.env := by rfl)
    (hp : (backTo q2 (starEach [b] X.env)).any (·.1) = false := by rfl)
    (na2 : starEach [.Call (.Name "range" q1) [a, b] [] q2] X.env = (false, eval (.Call (.Name "range" q1) [a, b] [] q2) X.env) :: starEach [] X.env := by rfl) : QE X (.Call (.Name "list" p1) [.Call (.Name "range" q1) [a, b] [] q2] [] pos) (tLstRg (tRg2 ta tb)) (pLstRg (rgArgs2 pa pb)) :=
  ⟨pe_listRg hc hg hm (prg_2 hg2 hr h.pe h'.pe na nb hp) na2, sim_lstRg (simR_2 h.sim h'.sim)⟩

/-! text[::-1] -/
theorem revStr_idx (n : Nat) : Builtin.Str.strSliceIndices none none (-1) n = (List.range n).map fun k => n - 1 - k := by
  show sliceRange ((n : Int) - 1) (-1) (-1) = _
  unfold sliceRange
  have h1 : ¬ ((-1 : Int) > 0) := by decide
  by_cases h : (n : Int) - 1 > -1
  · have e : ((n : Int) - 1 - -1 - -1 - 1) / (- -1) = (n : Int) := by
      rw [show (- -1 : Int) = 1 by decide, Int.ediv_one]
      omega
    simp only [h1, if_false, h, if_true, e, Int.toNat_natCast]
    apply List.map_congr_left
    intro k hk
    have := List.mem_range.mp hk
    omega
  · have e : n = 0 := by omega
    subst e
    simp
theorem revStr_pick (z : Str) : ((Builtin.Str.strSliceIndices none none (-1) z.length).filterMap (z.cps[·]?)) = z.cps.toList.reverse := by
  rw [revStr_idx]
  apply List.ext_getElem?
  intro i
  have hl : z.length = z.cps.toList.length := (Array.length_toList (xs := z.cps)).symm
  have key : ∀ (n : Nat), n ≤ z.cps.toList.length → ((List.range n).map fun k => z.length - 1 - k).filterMap (z.cps[·]?) = z.cps.toList.reverse.take n := by
    intro n
    induction n with
    | zero => intro _; rfl
    | succ n ih =>
      intro hn
      rw [List.range_succ, List.map_append, List.filterMap_append, ih (by omega)]
      have e1 : z.cps[z.length - 1 - n]? = some (z.cps.toList[z.length - 1 - n]'(by omega)) := by
        rw [← Array.getElem?_toList]
        exact List.getElem?_eq_getElem (by omega)
      simp only [List.map_cons, List.map_nil, List.filterMap_cons, List.filterMap_nil, e1]
      rw [List.take_succ]
      congr 1
      rw [List.getElem?_reverse (by omega)]
      have : z.cps.toList.length - 1 - n = z.length - 1 - n := by omega
      rw [this, List.getElem?_eq_getElem (by omega)]
      rfl
  rw [key z.length (by omega), List.take_of_length_le (by rw [List.length_reverse]; omega)]
def tRevS (te : TE) : TE := fun σ H Q => te σ H fun x H1 => ∃ z, x = .str z ∧ z.length ≤ sizeLine ∧ Q (.str ⟨z.cps.toList.reverse.toArray⟩) H1
theorem pe_revS {e : Expr} {te : TE} {k : Nat} {p1 p2 p3 pos : Pos} (he : PE X e te) : PE X (.Subscript e (.Slice none none (some (.UnaryOp .USub (.Constant (.int 1) k p1) p2)) p3) pos) (tRevS te) := by
  refine ⟨fun pins s σ H Q I h => ?_⟩
  refine Subscript_ (thn (he.run pins s σ H _ I h) fun v s1 ⟨x, H1, I1, r1, q1⟩ => ?_)
  obtain ⟨z, ex, hz, q⟩ := q1
  subst ex
  obtain ⟨t, rfl⟩ := r1
  have hst : PO X (some (.UnaryOp .USub (.Constant (.int 1) k p1) p2)) (tPart (tUn (rU fun i => .int (-i)) (tC (.int 1)))) := po_some (pe_un un_neg pe_int)
  refine wpAny_Slice (thn (po_none.run pins s1 σ H1 (fun o H2 => o = none ∧ H2 = H1) I1 ⟨rfl, rfl⟩) fun vl s2 ⟨l, H2, I2, pl, el, e2⟩ => ?_)
  subst el e2
  refine thn (po_none.run pins s2 σ H2 (fun o H3 => o = none ∧ H3 = H2) I2 ⟨rfl, rfl⟩) fun vu s3 ⟨u, H3, I3, pu, eu, e3⟩ => ?_
  subst eu e3
  refine thn (hst.run pins s3 σ H3 (fun o H4 => o = some (-1) ∧ H4 = H3) I3 ⟨1, rfl, -1, rfl, rfl, rfl⟩) fun vs s4 ⟨o, H4, I4, ps, eo, e4⟩ => ?_
  subst eo e4
  have I5 : Inv X pins σ H4 { s4 with heap := s4.heap.push { cls := .type "slice", data := .fields #[vl, vu, vs] } } := I4.kept (t' := s4.toks) fun b ob q => Heap.get?_push_of_some _ q
  obtain ⟨os, hos, hcs, hds⟩ := Heap.IsSliceOf.new s4.heap vl vu vs
  obtain ⟨l, rfl, el⟩ := IsPart.raw pl
  obtain ⟨u, rfl, eu⟩ := IsPart.raw pu
  obtain ⟨o, rfl, eo⟩ := IsPart.raw ps
  cases l with
  | some _ => cases el
  | none =>
  cases u with
  | some _ => cases eu
  | none =>
  have ho : (o.map (·.1)).getD 1 = -1 := by rw [eo]; rfl
  refine tail_any (ops := [.str z t, .ref s4.heap.objs.size]) (typeIs_str _ _ _) (F.slot_str_getitem.lookup) ?_ (by with_unfolding_all rfl)
  refine wpAny_getItem_str_slice (l := none) (u := none) (st := o) ⟨os, hos, hcs, hds⟩ (by rw [ho]; decide) ?_
  show Made.post (if (((o.map (·.1)).getD 1) == 1 && (Builtin.Str.strSliceIndices none none ((o.map (·.1)).getD 1) z.length).length == z.length) = true then Made.val (.str z t)
    else Made.str ⟨((Builtin.Str.strSliceIndices none none ((o.map (·.1)).getD 1) z.length).filterMap (z.cps[·]?)).toArray⟩) (EP X pins σ Q) _
  rw [ho, if_neg (by simp), revStr_pick]
  refine ⟨?_, .str _, H4, I5.tok _, ⟨_, rfl⟩, q⟩
  show z.cps.toList.reverse.toArray.size ≤ sizeLine
  rw [List.size_toArray, List.length_reverse, Array.length_toList]
  exact hz
def pRevS (p : PX) : PX := fun ρ P => p ρ fun x ρ1 => match res ρ1 x with
  | some (.str a) => a.length ≤ sizeLine ∧ P (.v true (.str a.reverse)) ρ1
  | _ => False
theorem sim_revS {K : PySem.W.Frag} {t : TE} {p : PX} (h : Sim K t p) : Sim K (tRevS t) (pRevS p) := fun M Z H0 F ns H σ ρ P Q S hp kk => by
  refine h M Z H0 F ns H σ ρ _ _ S hp fun x v H1 ns1 ρ1 S1 e1 d1 vx q => ?_
  split at q
  · rename_i y hx
    obtain ⟨z, rfl, e⟩ := vx.strV S1 hx
    exact ⟨z, rfl, by rw [str_len e]; exact q.1, kk _ _ _ ns1 ρ1 S1 e1 d1 (.str (by show z.cps.toList.reverse.toArray.toList = _; rw [e])) q.2⟩
  · exact q.elim
theorem qrevs {k : Nat} {p3 : Pos} (h : QE X e te pe) : QE X (.Subscript e (.Slice none none (some (.UnaryOp .USub (.Constant (.int 1) k p1) p2)) p3) pos) (tRevS te) (pRevS pe) := ⟨pe_revS h.pe, sim_revS h.sim⟩
end
section
variable {X : Cx} {elt tg iter : Expr} {ifs : List Expr} {scope : Scope} {own : List (Str × Nat)} {wi : TI} {pi : PI'} {g : TG} {pg : PG'} {tt : TT} {pt : PT'} {te : TE} {pe : PX} {pos : Pos}
/-- the block's context, anywhere -/
abbrev blk0 (X : Cx) (scope : Scope) : Cx := X.blk X.s_0 X.H_0 scope (compEnvC scope [] 0 X.env) []
theorem qlc2 (hc : X.calm = true) (hN : X.N.Nodup) (hi : QI X tg iter wi pi) (ok : BlkOk X.N X.env.scope scope own)
    (hg0 : QG (blk0 X scope) tg (own.map (·.2)) g pg) (ht0 : QTs (blk0 X scope) ifs tt pt) (he0 : QE (blk0 X scope) elt te pe)
    (hg : ∀ (s : Shared) (H : Hp) (C : Addr) (cl : List (Str × Addr)) (fp : List Addr), QG (X.blk s H scope (compEnvC scope cl C X.env) fp) tg (own.map (·.2)) g pg) (ht : ∀ (s : Shared) (H : Hp) (C : Addr) (cl : List (Str × Addr)) (fp : List Addr), QTs (X.blk s H scope (compEnvC scope cl C X.env) fp) ifs tt pt)
    (he : ∀ (s : Shared) (H : Hp) (C : Addr) (cl : List (Str × Addr)) (fp : List Addr), QE (X.blk s H scope (compEnvC scope cl C X.env) fp) elt te pe) (hs : ∀ x, foldedSetIterable iter X.env x = pure x := by intro _; rfl) :
    QE X (.ListComp elt [⟨tg, iter, ifs, 0⟩] scope pos) (tLc wi g tt te (own.map (·.2))) (pLc pi pg pt pe (own.map (·.2))) := qlc hc hN hi ok hg ht he hs
theorem qsetlc2 (i : Nat) {y : Str} {py spos : Pos} (hc : X.calm = true) (hN : X.N.Nodup) (hsw : swapsWith (.ListComp elt [⟨tg, iter, ifs, 0⟩] scope pos) (some (.Name y py)) spos.line X.env = pure true) (hi : QI X tg iter wi pi) (ok : BlkOk X.N X.env.scope scope own)
    (hg0 : QG (blk0 X scope) tg (own.map (·.2)) g pg) (ht0 : QTs (blk0 X scope) ifs tt pt) (he0 : QE (blk0 X scope) elt te pe)
    (hg : ∀ (s : Shared) (H : Hp) (C : Addr) (cl : List (Str × Addr)) (fp : List Addr), QG (X.blk s H scope (compEnvC scope cl C X.env) fp) tg (own.map (·.2)) g pg) (ht : ∀ (s : Shared) (H : Hp) (C : Addr) (cl : List (Str × Addr)) (fp : List Addr), QTs (X.blk s H scope (compEnvC scope cl C X.env) fp) ifs tt pt)
    (he : ∀ (s : Shared) (H : Hp) (C : Addr) (cl : List (Str × Addr)) (fp : List Addr), QE (X.blk s H scope (compEnvC scope cl C X.env) fp) elt te pe) (hy : X.N[i]? = some y := by rfl) (hyl : X.env.scope.names.lookup y = some .local := by rfl) (hs : ∀ x, foldedSetIterable iter X.env x = pure x := by intro _; rfl) :
    QS X (.Assign [.Name y py] (.ListComp elt [⟨tg, iter, ifs, 0⟩] scope pos) spos) (tAsg (tLc wi g tt te (own.map (·.2))) (gName i)) (sAsg (pLc pi pg pt pe (own.map (·.2))) (gN i)) := qsetlc i hc hN hsw hi ok hg ht he hy hyl hs
end
end Qq

namespace Qq
open PySem
section
variable {prog : Program} {w : World} {A : Around} {E : Value → Shared → Prop} {s : Shared}
theorem extend_rev {R : Result → Shared → Prop} {it l : Addr} {items : Array Value} (hh : A.handled = none) (hit : s.heap.IsRevIter it l ((items.size : Int) - 1)) (hl : s.heap.IsList l items) (hne : l ≠ it) (hn : items.size ≤ sizeLine) (S : Addr) (res : Value) (c₀ : Nat) (hS : s.heap.get? S = some { cls := .type "list", data := .seq #[] c₀ }) (hSi : S ≠ it) (hSl : S ≠ l)
    (hR : ∀ h' tk acc' c', (∀ b o, b ≠ S → b ≠ it → s.heap.get? b = some o → h'.get? b = some o) → h'.get? S = some { cls := .type "list", dict := none, data := .seq acc' c', slots := #[] } →
      ItemsOf (fun i v => items[items.size - 1 - i]? = some v) acc' items.size → R (.ok (.ret res)) { s with heap := h', toks := tk }) :
    wpAny (model prog w) A.in1 (Builtin.List.listExtendWith (.ref S) (.ref it) res)
      (fun fin s' => match fin with | .done f => R (.ok f) s' | .again c' => c'.quiet = true ∧ codeAny (model prog w) A c' R s') (fun e s' => R (.error e) s') s := by
  have W := (Walks.listRev (prog := prog) (w := w) (A := A.in1) hh it l hne items).toS
  have hSf : S ∉ [it, l] := by simp only [List.mem_cons, List.not_mem_nil, or_false, not_or]; exact ⟨hSi, hSl⟩
  have hT : s.TypeIs (.ref it) "list_reverseiterator" := Heap.IsRevIter.typeIs hit
  have h1 : Builtin.List.listSameRef (.ref S) (.ref it) = false := by simp [Builtin.List.listSameRef, hSi]
  unfold Builtin.List.listExtendWith
  refine wpAny_bind (wpAny_typeOf hT ?_)
  rw [if_neg (by rw [h1]; decide)]
  refine wpAny_bind (wpAny_pyIter_revIter hit ?_)
  refine wpAny_bind (wpAny_holding ?_)
  unfold Builtin.List.listLengthHint
  refine wpAny_bind (wpAny_specialOf hT RT.nolen_lri ?_)
  show wpAny _ A.in1 (specialOf (Value.ref it) (Str.ofString "__length_hint__") >>= _) _ _ _
  refine wpAny_bind (wpAny_specialOf hT RT.hint_lri ?_)
  generalize hid : ("list_reverseiterator.__length_hint__" : String) = id0
  wp_delta
  rw [show splitId id0 = some ("list_reverseiterator", "__length_hint__") from by subst hid; decide +kernel]
  subst hid
  refine wpAny_bind (wpAny_isInstance (b := true) hT (by rw [isSubtype_type]; kernel_rfl) ?_)
  refine wpAny_pure ?_
  rw [if_neg (by decide)]
  have e0 : ((items.size : Nat) : Int) - 1 - ((0 : Nat) : Int) = (items.size : Int) - 1 := by omega
  refine wpAny_pure ⟨plainId_quiet F.plain_extend_loop _, codeAny_extend_loopS W hn _ hSf _ items.size 0 _ _ _ rfl (Nat.zero_le _) ⟨Nat.zero_le _, by rw [e0]; exact hit, hl⟩ hS (ItemsOf.nil _) fun s' acc' c' hm hS' hacc => ?_⟩
  rw [Moved.eq_with hm]
  refine hR s'.heap s'.toks acc' c' (fun b o hb hbi e => hm.heap b o (fun hmem => ?_) e) hS' hacc
  rcases List.mem_cons.mp hmem with e' | hmem
  · exact hb e'
  · exact hbi (List.mem_singleton.mp hmem)
theorem init_rev {R : Result → Shared → Prop} {it l : Addr} {items : Array Value} (hh : A.handled = none) (hit : s.heap.IsRevIter it l ((items.size : Int) - 1)) (hl : s.heap.IsList l items) (hne : l ≠ it) (hn : items.size ≤ sizeLine) (S : Addr) (hS : s.heap.get? S = some { cls := .type "list", data := .seq #[] }) (hSi : S ≠ it) (hSl : S ≠ l)
    (hR : ∀ h' tk acc' c', (∀ b o, b ≠ S → b ≠ it → s.heap.get? b = some o → h'.get? b = some o) → h'.get? S = some { cls := .type "list", dict := none, data := .seq acc' c', slots := #[] } →
      ItemsOf (fun i v => items[items.size - 1 - i]? = some v) acc' items.size → R (.ok (.ret .none)) { s with heap := h', toks := tk }) :
    wpAny (model prog w) A.in1 (Builtin.«list.__init__» ⟨[.ref S, .ref it], []⟩)
      (fun fin s' => match fin with | .done f => R (.ok f) s' | .again c' => c'.quiet = true ∧ codeAny (model prog w) A c' R s') (fun e s' => R (.error e) s') s := by
  show wpAny _ _ (do let old ← Builtin.List.listItems (.ref S); Builtin.List.listUpdate (.ref S) (fun _ => #[]); letGo old.toList.reverse; Builtin.List.listExtendWith (.ref S) (.ref it) .none) _ _ s
  refine wpAny_bind ?_
  unfold Builtin.List.listItems
  refine wpAny_bind (wpAny_seqItems hS rfl (wpAny_pure ?_))
  show wpAny _ _ (updateSeq S (fun _ => #[]) >>= fun _ => letGo (#[] : Array Value).toList.reverse >>= fun _ => Builtin.List.listExtendWith (.ref S) (.ref it) .none) _ _ s
  refine wpAny_bind (wpAny_updateSeq hS rfl ?_)
  have hS₂ := Heap.get?_update_self (Obj.mapSeq (fun _ => (#[] : Array Value))) hS rfl
  have oth : ∀ b o, b ≠ S → s.heap.get? b = some o → (s.heap.update S (Obj.mapSeq (fun _ => (#[] : Array Value)))).get? b = some o :=
    fun b o hb e => (Heap.get?_update_other _ _ (Ne.symm hb)).trans e
  refine wpAny_bind (wpAny_letGo ?_)
  obtain ⟨ol, hol, hlr⟩ := hl
  refine extend_rev hh (hit.at fun o e => oth it o (Ne.symm hSi) e) ⟨ol, oth l ol (Ne.symm hSl) hol, hlr⟩ hne hn S .none _ hS₂ hSi hSl fun h' tk acc' c' hk hS' hacc => ?_
  exact hR h' tk acc' c' (fun b o hb hbi e => hk b o hb hbi (oth b o hb e)) hS' hacc
theorem call_list_rev {Q : Value → Shared → Prop} {it l : Addr} {items : Array Value} (hh : A.handled = none) (hit : s.heap.IsRevIter it l ((items.size : Int) - 1)) (hl : s.heap.IsList l items) (hne : l ≠ it) (hn : items.size ≤ sizeLine)
    (hQ : ∀ h' tk acc' c', (∀ b o, b ≠ it → s.heap.get? b = some o → h'.get? b = some o) →
      h'.get? s.heap.objs.size = some { cls := .type "list", dict := none, data := .seq acc' c', slots := #[] } → ItemsOf (fun i v => items[items.size - 1 - i]? = some v) acc' items.size → Q (.ref s.heap.objs.size) { s with heap := h', toks := tk }) :
    wpAny (model prog w) A (call (.type "list") [.ref it]) Q E s := by
  refine callType_codes (Q₁ := fun obj s₁ => obj = .ref s.heap.objs.size ∧ s₁ = { s with heap := s.heap.push { cls := .type "list", data := .seq #[] } }) F.called_list (F.typeCall_list_1 _) F.entry_list_init
    (code_list_new _ ⟨rfl, rfl⟩) fun obj s₁ h₁ => ?_
  obtain ⟨rfl, rfl⟩ := h₁
  have hS : (s.heap.push { cls := .type "list", data := .seq #[] }).get? s.heap.objs.size = some { cls := .type "list", data := .seq #[] } := Heap.get?_push_size _ rfl
  obtain ⟨oi, hoi, _⟩ := id hit
  obtain ⟨ol, hol, _⟩ := id hl
  refine ⟨⟨_, hS, rfl⟩, F.args_list_init_2 _ _, init_rev (s := { s with heap := s.heap.push { cls := .type "list", data := .seq #[] } }) (A := A.in1) hh (hit.at fun o e => Heap.get?_push_of_some _ e) (hl.push _) hne hn _ hS (Nat.ne_of_gt (Heap.lt_size hoi)) (Nat.ne_of_gt (Heap.lt_size hol)) fun h' tk acc' c' hk hS' hacc => ?_⟩
  exact ⟨rfl, hQ h' tk acc' c' (fun b o hb e => hk b o (Nat.ne_of_lt (Heap.lt_size e)) hb (Heap.get?_push_of_some _ e)) hS' hacc⟩
end
open PySem PySem.Spec PyProof.Rows L2
def tLstRev (K : PySem.W.Frag) (te : TE) : TE := fun σ H Q => te σ H fun v H1 => ∃ (a : Addr) (xs : List V), v = .ref a ∧ SqL K H1 a xs ∧ ∀ q, H1 q = none → Q (.ref q) (upd H1 q (.lst xs.reverse))
section
variable {X : Cx}
theorem pe_lstRev {e : Expr} {te : TE} {p p2 pos pos2 : Pos} (hc : X.calm = true) (hg : Gl X "list") (hm : X.mg "list" = none) (hg2 : Gl X "reversed") (hm2 : X.mg "reversed" = none) (he : PE X e te)
    (hs : starEach [e] X.env = (false, eval e X.env) :: starEach [] X.env := by rfl)
    (hs2 : starEach [.Call (.Name "reversed" p2) [e] [] pos2] X.env = (false, eval (.Call (.Name "reversed" p2) [e] [] pos2) X.env) :: starEach [] X.env := by rfl) :
    PE X (.Call (.Name "list" p) [.Call (.Name "reversed" p2) [e] [] pos2] [] pos) (tLstRev X.K te) := by
  refine ⟨fun pins s σ H Q I h => ?_⟩
  refine Call_ (ld_blt I hg hm boot_list (PyProof.Rows.callWith_type1 (args_cons (Call_ (ld_blt I hg2 hm2 PyProof.Rows.boot_reversed (PyProof.Rows.callWith_type1 (args_cons (thn (he.run pins s σ H _ I h) fun u s1 ⟨v, H1, I1, r1, q1⟩ => args_nil ?_) hs) hs rfl))) hs2) hs2 rfl))
  obtain ⟨a, xs, ev, hq, q⟩ := q1
  subst ev
  obtain rfl : u = Value.ref a := r1
  obtain ⟨its, rv, p', hz⟩ := I1.list hq
  refine call_reversed_list p'.isList (args_nil ?_)
  have k0 : ∀ b o, s1.heap.get? b = some o → (s1.heap.push (revObj a ((its.toArray.size : Int) - 1))).get? b = some o := fun b o e => Heap.get?_push_of_some _ e
  have I2 : Inv X pins σ H1 { s1 with heap := s1.heap.push (revObj a ((its.toArray.size : Int) - 1)) } := I1.kept (t' := s1.toks) k0
  have fp := I1.fpOk (H' := H1) (b := s1.heap.objs.size) (Nat.le_refl _) (I1.hok.fresh (Nat.le_refl _))
  have hl := p'.isList
  obtain ⟨ol, hol, _⟩ := id hl
  have hne : a ≠ s1.heap.objs.size := Nat.ne_of_lt (Heap.lt_size hol)
  have hn : its.toArray.size ≤ sizeLine := by rw [List.size_toArray, ← rv.length]; exact hz
  refine call_list_rev (s := { s1 with heap := s1.heap.push (revObj a ((its.toArray.size : Int) - 1)) }) (I1.ok.hd hc) ⟨_, Heap.get?_push_size _ rfl, rfl, rfl⟩ (hl.push _) hne hn fun h' tk acc c' hk e' hi => ?_
  refine ⟨.ref _, upd H1 _ (.lst xs.reverse), I2.turnedNew (t' := tk) (ch := [s1.heap.objs.size]) (fun b o hb e => hk b o (fun q => hb (by simp [q])) e) (fun b hb => by rw [List.mem_singleton.mp hb]; exact fp) (Nat.le_refl _) (show ObjOk X.prog X.w _ _ _ (.lst xs.reverse) from ⟨by rw [List.length_reverse]; exact hz, acc.toList, c', RT.vals_rev rv hi, ?_⟩), rfl, q _ (I2.hok.fresh (Nat.le_refl _))⟩
  rw [Array.toArray_toList]
  exact e'
def pLstRev (p : PX) : PX := fun ρ P => p ρ fun x ρ1 => match res ρ1 x with
  | some (.lst a) => P (.f (resF ρ1 x) a.reverse) ρ1
  | some (.lsr a) => P (.f (resF ρ1 x) a.reverse) ρ1
  | _ => False
theorem Items.reverse {K : PySem.W.Frag} {Z : Addr → Prop} {H0 H : Hp} {ns : Nat → List Addr} {ρ : Sto} {fr : Bool} {vs : List V} {ds : List D} {tl : List Addr} (I : Items K Z H0 H ns ρ fr vs ds tl) : ∃ tl', Items K Z H0 H ns ρ fr vs.reverse ds.reverse tl' := by
  obtain ⟨ms, r, h⟩ := I.rep.reverse
  exact ⟨ms, r, fun e b hb => I.fre e b (h b hb), fun i a ow hm => I.own i a ow (h a hm), fun b hb => I.hid b (h b hb)⟩
theorem sim_lstRev {K : PySem.W.Frag} {t : TE} {p : PX} (h : Sim K t p) : Sim K (tLstRev K t) (pLstRev p) := fun M Z H0 F ns H σ ρ P Q S hp kk => by
  refine h M Z H0 F ns H σ ρ _ _ S hp fun x v H1 ns1 ρ1 S1 e1 d1 vx q => ?_
  split at q
  · rename_i a hx
    obtain ⟨p1, vs, tl, rfl, h1, I1⟩ := vx.seqL S1 (.inl hx)
    obtain ⟨tl', I2⟩ := I1.reverse
    exact ⟨_, _, rfl, h1, fun p hp => kk _ _ _ ns1 ρ1 (S1.grow (same_upd hp)) (e1.trans (.same (same_upd hp))) d1 (VOk.newL S1 hp I2) q⟩
  · rename_i a hx
    obtain ⟨p1, vs, tl, rfl, h1, I1⟩ := vx.seqL S1 (.inr hx)
    obtain ⟨tl', I2⟩ := I1.reverse
    exact ⟨_, _, rfl, h1, fun p hp => kk _ _ _ ns1 ρ1 (S1.grow (same_upd hp)) (e1.trans (.same (same_upd hp))) d1 (VOk.newL S1 hp I2) q⟩
  · exact q.elim
theorem qlstrev {e : Expr} {te : TE} {pe : PX} {p1 q1 q2 pos : Pos} (hc : X.calm = true) (hm : X.mg "list" = none) (hr : X.mg "reversed" = none) (h : QE X e te pe) (hg : Gl X "list" := by rfl) (hg2 : Gl X "reversed" := by rfl) (na : starEach [e] X.env = (false, eval e X.env) :: starEach [] X.env := by rfl)
    (na2 : starEach [.Call (.Name "reversed" q1) [e] [] q2] X.env = (false, eval (.Call (.Name "reversed" q1) [e] [] q2) X.env) :: starEach [] X.env := by rfl) : QE X (.Call (.Name "list" p1) [.Call (.Name "reversed" q1) [e] [] q2] [] pos) (tLstRev X.K te) (pLstRev pe) :=
  ⟨pe_lstRev hc hg hm hg2 hr h.pe na na2, sim_lstRev h.sim⟩
end
end Qq

namespace Qq
open PySem
/-! zip of two rows, each a list or a tuple -/
def RowIt (b : Bool) (h : Heap) (i l : Addr) (k : Nat) : Prop := match b with
  | true => h.IsTupleIter i l k
  | false => h.IsListIter i l k
def RowAt (b : Bool) (h : Heap) (l : Addr) (xs : Array Value) : Prop := match b with
  | true => h.IsTuple l xs
  | false => h.IsList l xs
theorem RowIt.ext {b : Bool} {h h' : Heap} {i l c : Addr} {k : Nat} (x : RowIt b h i l k) (e : Heap.ExtBut c h h') (n : i ≠ c) : RowIt b h' i l k := by
  cases b
  · exact Heap.IsListIter.extBut x e n
  · exact Heap.IsTupleIter.extBut x e n
theorem RowIt.to {b : Bool} {h h' : Heap} {i l : Addr} {k : Nat} (x : RowIt b h i l k) (e : ∀ o, h.get? i = some o → h'.get? i = some o) : RowIt b h' i l k := by
  cases b
  · exact Heap.IsListIter.at x e
  · exact Heap.IsTupleIter.at x e
theorem RowAt.ext {b : Bool} {h h' : Heap} {l c : Addr} {xs : Array Value} (x : RowAt b h l xs) (e : Heap.ExtBut c h h') (n : l ≠ c) : RowAt b h' l xs := by
  cases b
  · exact Heap.IsList.extBut x e n
  · exact Heap.IsTuple.extBut x e n
theorem RowIt.obj {b : Bool} {h : Heap} {i l : Addr} {k : Nat} (x : RowIt b h i l k) : ∃ o, h.get? i = some o ∧ o.data = .fields #[.ref l, .int k 0] := by
  cases b
  · obtain ⟨o, e, _, d⟩ := x; exact ⟨o, e, d⟩
  · obtain ⟨o, e, _, d⟩ := x; exact ⟨o, e, d⟩
section
variable {prog : Program} {w : World} {A : Around} {E : Value → Shared → Prop} {s : Shared} {b1 b2 : Bool}
theorem next_row {b : Bool} {it l : Addr} {i : Nat} {xs : Array Value} {x : Value} {Q : Value → Shared → Prop} (hi : RowIt b s.heap it l i) (hl : RowAt b s.heap l xs) (hx : xs[i]? = some x)
    (q : ∀ h', RowIt b h' it l (i + 1) → Heap.SameBut it s.heap h' → Q x { s with heap := h' }) : wpAny (model prog w) A (Builtin.SmallTypes.nextOf (.ref it)) Q E s := by
  cases b
  · exact wpAny_nextOf_list_item hi hl hx q
  · exact RZ.nextOf_tuple_item hi hl hx q
theorem end_row {b : Bool} {it l : Addr} {i : Nat} {xs : Array Value} {Q : Value → Shared → Prop} (hh : A.handled = none) (hi : RowIt b s.heap it l i) (hl : RowAt b s.heap l xs) (hx : xs[i]? = none)
    (q : ∀ h' e, Heap.ExtBut it s.heap h' → (∃ o, h'.get? e = some o ∧ o.cls = .type "StopIteration") → E (.ref e) { s with heap := h' }) : wpAny (model prog w) A (Builtin.SmallTypes.nextOf (.ref it)) Q E s := by
  cases b
  · exact wpAny_nextOf_list_end hh hi hl hx q
  · exact RZ.nextOf_tuple_end hh hi hl hx q
/-- what stands still while the zip goes on -/
abbrev Still (z TO i1 i2 : Addr) (h h' : Heap) : Prop := ∀ c o, c ≠ z → c ≠ TO → c ≠ i1 → c ≠ i2 → h.get? c = some o → h'.get? c = some o
structure Pair2 (s : Shared) (z TI TO i1 i2 l1 l2 : Addr) (b1 b2 : Bool) (k1 k2 : Nat) (xs ys : Array Value) (a b : Value) : Prop where
  ap : ZipApart z TI TO i1 i2 l1 l2
  zp : IsZip s.heap z TI TO .none
  ti : IsPair s.heap TI (.ref i1) (.ref i2)
  to : IsPair s.heap TO a b
  r1 : RowIt b1 s.heap i1 l1 k1
  r2 : RowIt b2 s.heap i2 l2 k2
  s1 : RowAt b1 s.heap l1 xs
  s2 : RowAt b2 s.heap l2 ys
variable {z TI TO i1 i2 l1 l2 : Addr} {k1 k2 : Nat} {xs ys : Array Value} {x y a b : Value}
theorem zip_more {Q : Value → Shared → Prop} (W : Pair2 s z TI TO i1 i2 l1 l2 b1 b2 k1 k2 xs ys a b) (hx : xs[k1]? = some x) (hy : ys[k2]? = some y)
    (hQ : ∀ h', IsZip h' z TI TO (rawInt s.heap.objs.size) → IsPair h' TO x y → RowIt b1 h' i1 l1 (k1 + 1) → RowIt b2 h' i2 l2 (k2 + 1) → IsPair h' s.heap.objs.size x y → h'.objs.size = s.heap.objs.size + 1 → Still z TO i1 i2 s.heap h' → Q (.ref s.heap.objs.size) { s with heap := h' }) :
    wpAny (model prog w) A (Builtin.«zip.__next__» ⟨[.ref z], []⟩) (fun fin s' => ∃ v, fin = .done (.ret v) ∧ Q v s') E s := by
  obtain ⟨D, hz, hTI, hTO, r1, r2, s1, s2⟩ := W
  show wpAny _ _ (field (.ref z) 2 >>= _) _ _ _
  refine wpAny_bind (wpAny_field hz rfl (x := .bool false) rfl ?_)
  show wpAny _ _ (field (.ref z) 3 >>= _) _ _ _
  refine wpAny_bind (wpAny_field hz rfl (x := .ref TI) rfl (wpAny_bind (wpAny_seqItems hTI rfl ?_)))
  show wpAny _ _ (Builtin.SmallTypes.ownedTupleIsFree (.ref z) >>= _) _ _ _
  refine wpAny_bind ?_
  unfold Builtin.SmallTypes.ownedTupleIsFree
  refine wpAny_bind (wpAny_field hz rfl (x := .none) rfl (wpAny_pure ?_))
  simp only [if_true]
  refine wpAny_bind (wpAny_rule (wpAny_bind (wpAny_field hz rfl (x := .ref TO) rfl (wpAny_bind (wpAny_setField_rec hz (by simp) fun g1 z1 e1 => ?_)))))
  replace z1 : IsZip g1 z TI TO .ellipsis := z1
  have x1 := e1.extBut
  refine wpAny_bind ?_
  simp only [List.zipIdx_cons, List.zipIdx_nil, List.forIn_cons, List.forIn_nil]
  refine wpAny_bind (wpAny_bind (wpAny_onRaise ?_))
  show wpAny _ _ (Builtin.SmallTypes.nextOf (.ref i1) >>= _) _ _ _
  refine wpAny_bind (next_row (r1.ext x1 D.i1z) (s1.ext x1 D.l1z) hx fun g2 q1 e2 => wpAny_pure ?_)
  have x2 := e2.extBut
  have o2 : IsPair g2 TO a b := x2 _ _ D.TOi1 (x1 _ _ D.TOz hTO)
  refine wpAny_bind (wpAny_seqItems o2 rfl (wpAny_bind (wpAny_updateSeq_pair o2 fun g3 o3 e3 => ?_)))
  replace o3 : IsPair g3 TO x b := o3
  have x3 := e3.extBut
  refine wpAny_bind (wpAny_letGo (wpAny_pure (wpAny_bind (wpAny_bind (wpAny_onRaise ?_)))))
  show wpAny _ _ (Builtin.SmallTypes.nextOf (.ref i2) >>= _) _ _ _
  refine wpAny_bind (next_row (((r2.ext x1 D.i2z).ext x2 D.i12.symm).ext x3 D.TOi2.symm) (((s2.ext x1 D.l2z).ext x2 D.l2i1).ext x3 D.l2TO) hy fun g4 q2 e4 => wpAny_pure ?_)
  have x4 := e4.extBut
  have o4 : IsPair g4 TO x b := x4 _ _ D.TOi2 o3
  refine wpAny_bind (wpAny_seqItems o4 rfl (wpAny_bind (wpAny_updateSeq_pair o4 fun g5 o5 e5 => ?_)))
  replace o5 : IsPair g5 TO x y := o5
  have x5 := e5.extBut
  refine wpAny_bind (wpAny_letGo (wpAny_pure (wpAny_pure (wpAny_bind (wpAny_seqItems o5 rfl (wpAny_bind (wpAny_newTuple ?_)))))))
  have sz : g5.objs.size = s.heap.objs.size := by rw [e5.1, e4.1, e3.1, e2.1, e1.1]
  have z5 : IsZip g5 z TI TO .ellipsis := x5 _ _ D.TOz.symm (x4 _ _ D.i2z.symm (x3 _ _ D.TOz.symm (x2 _ _ D.i1z.symm z1)))
  have keep : ∀ c o, c ≠ z → c ≠ TO → c ≠ i1 → c ≠ i2 → s.heap.get? c = some o → g5.get? c = some o := fun c o n1 n2 n3 n4 e => x5 _ _ n2 (x4 _ _ n4 (x3 _ _ n2 (x2 _ _ n3 (x1 _ _ n1 e))))
  have p1 := ((q1.ext x3 D.TOi1.symm).ext x4 D.i12).ext x5 D.TOi1.symm
  have p2 := q2.ext x5 D.TOi2.symm
  have ltz : z < g5.objs.size := Heap.lt_size z5
  show wpAny _ _ (Builtin.SmallTypes.ownedTupleHandOut (.ref z) (.ref g5.objs.size) >>= _) _ _ _
  refine wpAny_bind ?_
  unfold Builtin.SmallTypes.ownedTupleHandOut
  have z6 : IsZip (g5.push { cls := .type "tuple", data := .seq #[x, y] }) z TI TO .ellipsis := Heap.get?_push_of_some _ z5
  refine wpAny_bind (wpAny_setField_rec z6 (by simp) fun g7 z7 e7 => ?_)
  replace z7 : IsZip g7 z TI TO (rawInt g5.objs.size) := z7
  refine wpAny_setField_rec z7 (by simp) fun g8 z8 e8 => ?_
  replace z8 : IsZip g8 z TI TO (rawInt g5.objs.size) := z8
  have up : ∀ c o, c ≠ z → g5.get? c = some o → g8.get? c = some o := fun c o n e => e8.extBut _ _ n (e7.extBut _ _ n (Heap.get?_push_of_some _ e))
  have t8 : IsPair g8 g5.objs.size x y := e8.extBut _ _ (Nat.ne_of_gt ltz) (e7.extBut _ _ (Nat.ne_of_gt ltz) (Heap.get?_push_size _ rfl))
  have n8 : g8.objs.size = g5.objs.size + 1 := by rw [e8.1, e7.1, Heap.size_push]
  rw [sz] at z8 t8 n8
  refine wpAny_pure ⟨_, rfl, ?_⟩
  show Q (.ref g5.objs.size) _
  rw [sz]
  exact hQ g8 z8 (up _ _ D.TOz o5) (p1.to fun o e => up _ o D.i1z e) (p2.to fun o e => up _ o D.i2z e) t8 n8 fun c o n1 n2 n3 n4 e => up c o n1 (keep c o n1 n2 n3 n4 e)
theorem zip_over {Q : Fin → Shared → Prop} (hh : A.handled = none) (W : Pair2 s z TI TO i1 i2 l1 l2 b1 b2 k1 k2 xs ys a b) (hend : xs[k1]? = none ∨ ys[k2]? = none)
    (hE : ∀ h' e, Still z TO i1 i2 s.heap h' → (∃ o, h'.get? e = some o ∧ o.cls = .type "StopIteration") → E (.ref e) { s with heap := h' }) :
    wpAny (model prog w) A (Builtin.«zip.__next__» ⟨[.ref z], []⟩) Q E s := by
  obtain ⟨D, hz, hTI, hTO, r1, r2, s1, s2⟩ := W
  show wpAny _ _ (field (.ref z) 2 >>= _) _ _ _
  refine wpAny_bind (wpAny_field hz rfl (x := .bool false) rfl ?_)
  show wpAny _ _ (field (.ref z) 3 >>= _) _ _ _
  refine wpAny_bind (wpAny_field hz rfl (x := .ref TI) rfl (wpAny_bind (wpAny_seqItems hTI rfl ?_)))
  show wpAny _ _ (Builtin.SmallTypes.ownedTupleIsFree (.ref z) >>= _) _ _ _
  refine wpAny_bind ?_
  unfold Builtin.SmallTypes.ownedTupleIsFree
  refine wpAny_bind (wpAny_field hz rfl (x := .none) rfl (wpAny_pure ?_))
  simp only [if_true]
  refine wpAny_bind (wpAny_rule (wpAny_bind (wpAny_field hz rfl (x := .ref TO) rfl (wpAny_bind (wpAny_setField_rec hz (by simp) fun g1 z1 e1 => ?_)))))
  replace z1 : IsZip g1 z TI TO .ellipsis := z1
  have x1 := e1.extBut
  have fin : ∀ (g : Heap) (e : Addr) (zz : IsZip g z TI TO .ellipsis) (k : Still z TO i1 i2 s.heap g) (he : ∃ o, g.get? e = some o ∧ o.cls = .type "StopIteration"), wpAny (model prog w) A (setField (.ref z) 0 .none) (fun _ s' => E (.ref e) s') E { s with heap := g } := fun g e zz k ⟨oe, hoe, hce⟩ => by
    have ne : e ≠ z := fun q => by subst q; rw [zz] at hoe; cases hoe; simp at hce
    exact wpAny_setField_rec zz (by simp) fun g' _ e' => hE g' e (fun c o n1 n2 n3 n4 q => e'.extBut _ _ n1 (k c o n1 n2 n3 n4 q)) ⟨oe, e'.extBut _ _ ne hoe, hce⟩
  refine wpAny_bind ?_
  simp only [List.zipIdx_cons, List.zipIdx_nil, List.forIn_cons, List.forIn_nil]
  refine wpAny_bind (wpAny_bind (wpAny_onRaise ?_))
  show wpAny _ _ (Builtin.SmallTypes.nextOf (.ref i1) >>= _) _ _ _
  cases hx : xs[k1]? with
  | none => exact wpAny_bind (end_row hh (r1.ext x1 D.i1z) (s1.ext x1 D.l1z) hx fun g2 e x2 he => fin g2 e (x2 _ _ D.i1z.symm z1) (fun c o n1 _ n3 _ q => x2 _ _ n3 (x1 _ _ n1 q)) he)
  | some x =>
    have hy : ys[k2]? = none := hend.elim (fun q => by rw [hx] at q; cases q) id
    refine wpAny_bind (next_row (r1.ext x1 D.i1z) (s1.ext x1 D.l1z) hx fun g2 q1 e2 => wpAny_pure ?_)
    have x2 := e2.extBut
    have o2 : IsPair g2 TO a b := x2 _ _ D.TOi1 (x1 _ _ D.TOz hTO)
    refine wpAny_bind (wpAny_seqItems o2 rfl (wpAny_bind (wpAny_updateSeq_pair o2 fun g3 o3 e3 => ?_)))
    have x3 := e3.extBut
    refine wpAny_bind (wpAny_letGo (wpAny_pure (wpAny_bind (wpAny_bind (wpAny_onRaise ?_)))))
    show wpAny _ _ (Builtin.SmallTypes.nextOf (.ref i2) >>= _) _ _ _
    exact wpAny_bind (end_row hh (((r2.ext x1 D.i2z).ext x2 D.i12.symm).ext x3 D.TOi2.symm) (((s2.ext x1 D.l2z).ext x2 D.l2i1).ext x3 D.l2TO) hy fun g4 e x4 he =>
      fin g4 e (x4 _ _ D.i2z.symm (x3 _ _ D.TOz.symm (x2 _ _ D.i1z.symm z1))) (fun c o n1 n2 n3 n4 q => x4 _ _ n4 (x3 _ _ n2 (x2 _ _ n3 (x1 _ _ n1 q)))) he)
theorem next_more {Q : Option Value → Shared → Prop} (W : Pair2 s z TI TO i1 i2 l1 l2 b1 b2 k1 k2 xs ys a b) (hx : xs[k1]? = some x) (hy : ys[k2]? = some y)
    (hQ : ∀ h', IsZip h' z TI TO (rawInt s.heap.objs.size) → IsPair h' TO x y → RowIt b1 h' i1 l1 (k1 + 1) → RowIt b2 h' i2 l2 (k2 + 1) → IsPair h' s.heap.objs.size x y → h'.objs.size = s.heap.objs.size + 1 → Still z TO i1 i2 s.heap h' → Q (some (.ref s.heap.objs.size)) { s with heap := h' }) :
    wpAny (model prog w) A (pyNext (.ref z)) Q E s := by
  have hT : s.TypeIs (.ref z) "zip" := ⟨_, W.zp, rfl⟩
  unfold pyNext
  exact wpAny_bind (wpAny_attempt (wpAny_callSpecial?_slot (name := Str.ofString "__next__") hT F.slot_zip_next (wpAny_call_entry F.slot_zip_next hT F.entry_zip_next
    (zip_more W hx hy fun h' a1 a2 a3 a4 a5 a6 a7 => wpAny_pure (hQ h' a1 a2 a3 a4 a5 a6 a7)) (F.args_zip_next_1 _))))
theorem next_over {Q : Option Value → Shared → Prop} (hh : A.handled = none) (W : Pair2 s z TI TO i1 i2 l1 l2 b1 b2 k1 k2 xs ys a b) (hend : xs[k1]? = none ∨ ys[k2]? = none)
    (hQ : ∀ h', Still z TO i1 i2 s.heap h' → Q none { s with heap := h' }) : wpAny (model prog w) A (pyNext (.ref z)) Q E s := by
  have hT : s.TypeIs (.ref z) "zip" := ⟨_, W.zp, rfl⟩
  unfold pyNext
  refine wpAny_bind (wpAny_attempt (wpAny_callSpecial?_slot (name := Str.ofString "__next__") hT F.slot_zip_next (wpAny_call_entry F.slot_zip_next hT F.entry_zip_next
    (zip_over hh W hend fun h' e hk ⟨o, ho, hc⟩ => ?_) (F.args_zip_next_1 _))))
  exact wpAny_bind (wpAny_isInstance (T := "StopIteration") (b := true) ⟨o, ho, hc⟩ isSubtype_stop (wpAny_pure (hQ _ hk)))
end
/-! a tuple's items with a list's: made -/
abbrev mz1 (h : Heap) (l1 : Addr) : Heap := h.push { cls := .type "tuple_iterator", data := .fields #[.ref l1, .int 0 0] }
abbrev mz2 (h : Heap) (l1 l2 : Addr) : Heap := (mz1 h l1).push { cls := .type "list_iterator", data := .fields #[.ref l2, .int 0 0] }
abbrev mz3 (h : Heap) (l1 l2 : Addr) : Heap := (mz2 h l1 l2).push { cls := .type "tuple", data := .seq #[.ref h.objs.size, .ref (mz1 h l1).objs.size] }
abbrev mz4 (h : Heap) (l1 l2 : Addr) : Heap := (mz3 h l1 l2).push { cls := .type "tuple", data := .seq #[.none, .none] }
abbrev mz5 (h : Heap) (l1 l2 : Addr) : Heap := (mz4 h l1 l2).push { cls := .type "zip", data := .fields #[.none, .bool false, .bool false, .ref (mz2 h l1 l2).objs.size, .ref (mz3 h l1 l2).objs.size] }
theorem made_mz (l1 l2 : Addr) (xs ys : Array Value) : Meets (Builtin.«zip.__new__» ⟨[.type "zip", .ref l1, .ref l2], []⟩) (fun _ R s => s.heap.IsTuple l1 xs ∧ s.heap.IsList l2 ys ∧ R (.ok (.ret (.ref (mz4 s.heap l1 l2).objs.size))) { s with heap := mz5 s.heap l1 l2 }) :=
  .of_wp fun prog w A R s h => by
    obtain ⟨hp, g, d, tk, os⟩ := s; obtain ⟨hl1, hl2, h⟩ := h
    have hsub := sub_zip
    have L1 : Heap.IsTuple (Shared.heap ⟨hp, g, d, tk, os⟩) l1 xs := hl1
    have L2 : Heap.IsList (Shared.heap ⟨mz1 hp l1, g, d, tk, os⟩) l2 ys := Heap.IsList.push hl2 _
    wp_walk using wpAny_pyIter_tuple L1, wpAny_pyIter_list L2
    exact ⟨_, rfl, h⟩
theorem call_mz {prog : Program} {w : World} {A : Around} {E : Value → Shared → Prop} {s : Shared} {l1 l2 : Addr} {xs ys : Array Value} {Q : Value → Shared → Prop} (hl1 : s.heap.IsTuple l1 xs) (hl2 : s.heap.IsList l2 ys)
    (h : ∀ h', IsZip h' (s.heap.objs.size + 4) (s.heap.objs.size + 2) (s.heap.objs.size + 3) .none → IsPair h' (s.heap.objs.size + 2) (.ref s.heap.objs.size) (.ref (s.heap.objs.size + 1)) → IsPair h' (s.heap.objs.size + 3) .none .none →
      RowIt true h' s.heap.objs.size l1 0 → RowIt false h' (s.heap.objs.size + 1) l2 0 → (∀ c o, s.heap.get? c = some o → h'.get? c = some o) → Q (.ref (s.heap.objs.size + 4)) { s with heap := h' }) :
    wpAny (model prog w) A (call (.type "zip") [.ref l1, .ref l2]) Q E s := by
  refine callType_new F.called_zip (by decide) (F.typeCall_zip_2 _ _) (F.newCall_zip_2 _ _) (fun obj => F.args_object_init_3 obj _ _) F.entry_zip_new (made_mz l1 l2 xs ys) ⟨hl1, hl2, ?_⟩
  have n1 : (mz1 s.heap l1).objs.size = s.heap.objs.size + 1 := Heap.size_push ..
  have n2 : (mz2 s.heap l1 l2).objs.size = s.heap.objs.size + 2 := by rw [Heap.size_push, n1]
  have n3 : (mz3 s.heap l1 l2).objs.size = s.heap.objs.size + 3 := by rw [Heap.size_push, n2]
  have n4 : (mz4 s.heap l1 l2).objs.size = s.heap.objs.size + 4 := by rw [Heap.size_push, n3]
  have g5 : (mz5 s.heap l1 l2).get? (mz4 s.heap l1 l2).objs.size = some _ := Heap.get?_push_size _ rfl
  have g4 : (mz5 s.heap l1 l2).get? (mz3 s.heap l1 l2).objs.size = some _ := Heap.get?_push_of_some _ (Heap.get?_push_size _ rfl)
  have g3 : (mz5 s.heap l1 l2).get? (mz2 s.heap l1 l2).objs.size = some _ := Heap.get?_push_of_some _ (Heap.get?_push_of_some _ (Heap.get?_push_size _ rfl))
  have g2 : (mz5 s.heap l1 l2).get? (mz1 s.heap l1).objs.size = some _ := Heap.get?_push_of_some _ (Heap.get?_push_of_some _ (Heap.get?_push_of_some _ (Heap.get?_push_size _ rfl)))
  have g1 : (mz5 s.heap l1 l2).get? s.heap.objs.size = some _ := Heap.get?_push_of_some _ (Heap.get?_push_of_some _ (Heap.get?_push_of_some _ (Heap.get?_push_of_some _ (Heap.get?_push_size _ rfl))))
  show _ ∧ _
  rw [n2, n3, n4] at g5
  rw [n1, n2] at g3
  rw [n3] at g4
  rw [n1] at g2
  rw [n4]
  exact ⟨⟨_, g5, rfl⟩, h _ g5 g3 g4 ⟨_, g1, rfl, rfl⟩ ⟨_, g2, rfl, rfl⟩ fun c o q => Heap.get?_push_of_some _ (Heap.get?_push_of_some _ (Heap.get?_push_of_some _ (Heap.get?_push_of_some _ (Heap.get?_push_of_some _ q))))⟩
/-! a list's items with a tuple's: made -/
abbrev lz1 (h : Heap) (l1 : Addr) : Heap := h.push { cls := .type "list_iterator", data := .fields #[.ref l1, .int 0 0] }
abbrev lz2 (h : Heap) (l1 l2 : Addr) : Heap := (lz1 h l1).push { cls := .type "tuple_iterator", data := .fields #[.ref l2, .int 0 0] }
abbrev lz3 (h : Heap) (l1 l2 : Addr) : Heap := (lz2 h l1 l2).push { cls := .type "tuple", data := .seq #[.ref h.objs.size, .ref (lz1 h l1).objs.size] }
abbrev lz4 (h : Heap) (l1 l2 : Addr) : Heap := (lz3 h l1 l2).push { cls := .type "tuple", data := .seq #[.none, .none] }
abbrev lz5 (h : Heap) (l1 l2 : Addr) : Heap := (lz4 h l1 l2).push { cls := .type "zip", data := .fields #[.none, .bool false, .bool false, .ref (lz2 h l1 l2).objs.size, .ref (lz3 h l1 l2).objs.size] }
theorem made_lz (l1 l2 : Addr) (xs ys : Array Value) : Meets (Builtin.«zip.__new__» ⟨[.type "zip", .ref l1, .ref l2], []⟩) (fun _ R s => s.heap.IsList l1 xs ∧ s.heap.IsTuple l2 ys ∧ R (.ok (.ret (.ref (lz4 s.heap l1 l2).objs.size))) { s with heap := lz5 s.heap l1 l2 }) :=
  .of_wp fun prog w A R s h => by
    obtain ⟨hp, g, d, tk, os⟩ := s; obtain ⟨hl1, hl2, h⟩ := h
    have hsub := sub_zip
    have L1 : Heap.IsList (Shared.heap ⟨hp, g, d, tk, os⟩) l1 xs := hl1
    have L2 : Heap.IsTuple (Shared.heap ⟨lz1 hp l1, g, d, tk, os⟩) l2 ys := Heap.IsTuple.push hl2 _
    wp_walk using wpAny_pyIter_list L1, wpAny_pyIter_tuple L2
    exact ⟨_, rfl, h⟩
theorem call_lz {prog : Program} {w : World} {A : Around} {E : Value → Shared → Prop} {s : Shared} {l1 l2 : Addr} {xs ys : Array Value} {Q : Value → Shared → Prop} (hl1 : s.heap.IsList l1 xs) (hl2 : s.heap.IsTuple l2 ys)
    (h : ∀ h', IsZip h' (s.heap.objs.size + 4) (s.heap.objs.size + 2) (s.heap.objs.size + 3) .none → IsPair h' (s.heap.objs.size + 2) (.ref s.heap.objs.size) (.ref (s.heap.objs.size + 1)) → IsPair h' (s.heap.objs.size + 3) .none .none →
      RowIt false h' s.heap.objs.size l1 0 → RowIt true h' (s.heap.objs.size + 1) l2 0 → (∀ c o, s.heap.get? c = some o → h'.get? c = some o) → Q (.ref (s.heap.objs.size + 4)) { s with heap := h' }) :
    wpAny (model prog w) A (call (.type "zip") [.ref l1, .ref l2]) Q E s := by
  refine callType_new F.called_zip (by decide) (F.typeCall_zip_2 _ _) (F.newCall_zip_2 _ _) (fun obj => F.args_object_init_3 obj _ _) F.entry_zip_new (made_lz l1 l2 xs ys) ⟨hl1, hl2, ?_⟩
  have n1 : (lz1 s.heap l1).objs.size = s.heap.objs.size + 1 := Heap.size_push ..
  have n2 : (lz2 s.heap l1 l2).objs.size = s.heap.objs.size + 2 := by rw [Heap.size_push, n1]
  have n3 : (lz3 s.heap l1 l2).objs.size = s.heap.objs.size + 3 := by rw [Heap.size_push, n2]
  have n4 : (lz4 s.heap l1 l2).objs.size = s.heap.objs.size + 4 := by rw [Heap.size_push, n3]
  have g5 : (lz5 s.heap l1 l2).get? (lz4 s.heap l1 l2).objs.size = some _ := Heap.get?_push_size _ rfl
  have g4 : (lz5 s.heap l1 l2).get? (lz3 s.heap l1 l2).objs.size = some _ := Heap.get?_push_of_some _ (Heap.get?_push_size _ rfl)
  have g3 : (lz5 s.heap l1 l2).get? (lz2 s.heap l1 l2).objs.size = some _ := Heap.get?_push_of_some _ (Heap.get?_push_of_some _ (Heap.get?_push_size _ rfl))
  have g2 : (lz5 s.heap l1 l2).get? (lz1 s.heap l1).objs.size = some _ := Heap.get?_push_of_some _ (Heap.get?_push_of_some _ (Heap.get?_push_of_some _ (Heap.get?_push_size _ rfl)))
  have g1 : (lz5 s.heap l1 l2).get? s.heap.objs.size = some _ := Heap.get?_push_of_some _ (Heap.get?_push_of_some _ (Heap.get?_push_of_some _ (Heap.get?_push_of_some _ (Heap.get?_push_size _ rfl))))
  show _ ∧ _
  rw [n2, n3, n4] at g5
  rw [n1, n2] at g3
  rw [n3] at g4
  rw [n1] at g2
  rw [n4]
  exact ⟨⟨_, g5, rfl⟩, h _ g5 g3 g4 ⟨_, g1, rfl, rfl⟩ ⟨_, g2, rfl, rfl⟩ fun c o q => Heap.get?_push_of_some _ (Heap.get?_push_of_some _ (Heap.get?_push_of_some _ (Heap.get?_push_of_some _ (Heap.get?_push_of_some _ q))))⟩
end Qq

namespace Qq
open PySem PySem.Spec PyProof.Rows L2
/-- pairs of what two rows hold -/
def ItG (A B : Hp → List V → Prop) : It :=
  ⟨fun i H => ∃ (xs ys : List V) (x y : V), A H xs ∧ B H ys ∧ xs[i]? = some x ∧ ys[i]? = some y,
    fun i H v H' => ∃ T x y, v = .ref T ∧ H T = none ∧ H' = upd H T (.tup [x, y]) ∧ (∀ xs, A H xs → xs[i]? = some x) ∧ ∀ ys, B H ys → ys[i]? = some y,
    fun i H => ∃ xs ys : List V, A H xs ∧ B H ys ∧ (xs.length ≤ i ∨ ys.length ≤ i)⟩
abbrev ItM (K : PySem.W.Frag) (a b : Addr) : It := ItG (fun H xs => SqT K H a xs) (fun H ys => SqL K H b ys)
theorem turn_mz {P : Program} {w : World} {K : PySem.W.Frag} {elts : List Expr} {kk : Nat} {tpos : Pos} {a b z TI TO i1 i2 : Addr} (D : ZipApart z TI TO i1 i2 a b) :
    Turn P w K (.Tuple elts kk tpos) (ItM K a b) [z, TI, TO, i1, i2] z (fun i h => IsZip h z TI TO .none ∧ IsPair h TI (.ref i1) (.ref i2) ∧ (∃ x y, IsPair h TO x y) ∧ RowIt true h i1 a i ∧ RowIt false h i2 b i) where
  mem := by simp
  obj := fun i h st c hc => by
    obtain ⟨hz, hTI, ⟨x, y, hTO⟩, h1, h2⟩ := st
    obtain ⟨o1, e1, d1⟩ := h1.obj
    obtain ⟨o2, e2, d2⟩ := h2.obj
    have e' : c = z ∨ c = TI ∨ c = TO ∨ c = i1 ∨ c = i2 := by simpa using hc
    rcases e' with q | q | q | q | q
    · rw [q]; exact ⟨_, hz, fun v q => nomatch q⟩
    · rw [q]; exact ⟨_, hTI, fun v q => nomatch q⟩
    · rw [q]; exact ⟨_, hTO, fun v q => nomatch q⟩
    · rw [q]; exact ⟨o1, e1, fun v q => by rw [d1] at q; cases q⟩
    · rw [q]; exact ⟨o2, e2, fun v q => by rw [d2] at q; cases q⟩
  keep := fun i h h' st k => by
    obtain ⟨hz, hTI, ⟨x, y, hTO⟩, h1, h2⟩ := st
    exact ⟨k z (by simp) _ hz, k TI (by simp) _ hTI, ⟨x, y, k TO (by simp) _ hTO⟩, h1.to fun o q => k i1 (by simp) o q, h2.to fun o q => k i2 (by simp) o q⟩
  item := by
    intro X hP hw hK hc i pins s σ H E I hf st hg
    subst hP hw hK
    obtain ⟨hz, hTI, ⟨x0, y0, hTO⟩, h1, h2⟩ := st
    obtain ⟨xs, ys, x, y, hqx, hqy, hx, hy⟩ := hg
    obtain ⟨its, rv, p, _⟩ := I.tuple hqx
    obtain ⟨its2, rv2, p2, _⟩ := I.list hqy
    obtain ⟨u, hu, ru⟩ := rv.get hx
    obtain ⟨u2, hu2, ru2⟩ := rv2.get hy
    have hzl : z < s.heap.objs.size := Heap.lt_size hz
    refine next_more (b1 := true) (b2 := false) (xs := its.toArray) (ys := its2.toArray) ⟨D, hz, hTI, hTO, h1, h2, p, p2.isList⟩ (x := u) (y := u2) (by simpa using hu) (by simpa using hu2) fun h' z' TO' h1' h2' hT hsz hk => ?_
    refine ⟨_, rfl, wpAny_letOwnedTupleGo_zip (s := { s with heap := h' }) z' fun h'' z'' sb => ?_⟩
    have hT2 : h''.get? s.heap.objs.size = some { cls := .type "tuple", data := .seq #[u, u2] } := (sb.2 _ (Nat.ne_of_gt hzl)).trans hT
    have new : ObjOk X.prog X.w (upd H s.heap.objs.size (.tup [x, y])) h'' s.heap.objs.size (.tup [x, y]) :=
      ⟨by show 2 ≤ sizeLine; decide, [u, u2], .cons ru (.cons ru2 .nil), ⟨_, hT2, rfl, _, rfl⟩⟩
    have I1 : Inv X pins σ (upd H s.heap.objs.size (.tup [x, y])) { s with heap := h'' } :=
      I.turnedNew (t' := s.toks) (ch := [z, TI, TO, i1, i2]) (fun c o hb q => (sb.2 c (fun q' => hb (by simp [q']))).trans (hk c o (fun q' => hb (by simp [q'])) (fun q' => hb (by simp [q'])) (fun q' => hb (by simp [q'])) (fun q' => hb (by simp [q'])) q)) hf (Nat.le_refl _) new
    refine ⟨.ref s.heap.objs.size, _, I1, rfl, ⟨_, x, y, rfl, I.hok.fresh (Nat.le_refl _), rfl, fun l hl => by rw [I.tuple_inj hl hqx]; exact hx, fun l hl => by rw [I.list_inj hl hqy]; exact hy⟩, ⟨z'', ?_, ⟨u, u2, ?_⟩, ?_, ?_⟩, fun c hcm => ?_⟩
    · exact (sb.2 _ D.TIz).trans (hk _ _ D.TIz D.TITO D.TIi1 D.TIi2 hTI)
    · exact (sb.2 _ D.TOz).trans TO'
    · exact h1'.to fun o q => (sb.2 _ D.i1z).trans q
    · exact h2'.to fun o q => (sb.2 _ D.i2z).trans q
    · have hlt : c < s.heap.objs.size := by
        have e' : c = z ∨ c = TI ∨ c = TO ∨ c = i1 ∨ c = i2 := by simpa using hcm
        rcases e' with q | q | q | q | q
        · rw [q]; exact hzl
        · rw [q]; exact Heap.lt_size hTI
        · rw [q]; exact Heap.lt_size hTO
        · rw [q]; obtain ⟨_, e1, _⟩ := h1.obj; exact Heap.lt_size e1
        · rw [q]; obtain ⟨_, e2, _⟩ := h2.obj; exact Heap.lt_size e2
      rw [upd_ne (Nat.ne_of_lt hlt)]
      exact (hf c hcm).1
  done := by
    intro X hP hw hK hc i pins s σ H E I hf st hg
    subst hP hw hK
    obtain ⟨hz, hTI, ⟨x0, y0, hTO⟩, h1, h2⟩ := st
    obtain ⟨xs, ys, hqx, hqy, hend⟩ := hg
    obtain ⟨its, rv, p, _⟩ := I.tuple hqx
    obtain ⟨its2, rv2, p2, _⟩ := I.list hqy
    have l1 := rv.length
    have l2 := rv2.length
    have he : its.toArray[i]? = none ∨ its2.toArray[i]? = none := by
      rcases hend with q | q
      · exact .inl (by simp; omega)
      · exact .inr (by simp; omega)
    exact next_over (I.ok.hd hc) ⟨D, hz, hTI, hTO, h1, h2, p, p2.isList⟩ he fun h' hk => ⟨rfl, I.turnedL (t' := s.toks) (ch := [z, TI, TO, i1, i2]) (fun c o hb q =>
      hk c o (fun q' => hb (by simp [q'])) (fun q' => hb (by simp [q'])) (fun q' => hb (by simp [q'])) (fun q' => hb (by simp [q'])) q) hf⟩
  self := fun A i s Q E st h => wpAny_pyIter_zip st.1 h
abbrev ItL (K : PySem.W.Frag) (a b : Addr) : It := ItG (fun H xs => SqL K H a xs) (fun H ys => SqT K H b ys)
theorem turn_lz {P : Program} {w : World} {K : PySem.W.Frag} {elts : List Expr} {kk : Nat} {tpos : Pos} {a b z TI TO i1 i2 : Addr} (D : ZipApart z TI TO i1 i2 a b) :
    Turn P w K (.Tuple elts kk tpos) (ItL K a b) [z, TI, TO, i1, i2] z (fun i h => IsZip h z TI TO .none ∧ IsPair h TI (.ref i1) (.ref i2) ∧ (∃ x y, IsPair h TO x y) ∧ RowIt false h i1 a i ∧ RowIt true h i2 b i) where
  mem := by simp
  obj := fun i h st c hc => by
    obtain ⟨hz, hTI, ⟨x, y, hTO⟩, h1, h2⟩ := st
    obtain ⟨o1, e1, d1⟩ := h1.obj
    obtain ⟨o2, e2, d2⟩ := h2.obj
    have e' : c = z ∨ c = TI ∨ c = TO ∨ c = i1 ∨ c = i2 := by simpa using hc
    rcases e' with q | q | q | q | q
    · rw [q]; exact ⟨_, hz, fun v q => nomatch q⟩
    · rw [q]; exact ⟨_, hTI, fun v q => nomatch q⟩
    · rw [q]; exact ⟨_, hTO, fun v q => nomatch q⟩
    · rw [q]; exact ⟨o1, e1, fun v q => by rw [d1] at q; cases q⟩
    · rw [q]; exact ⟨o2, e2, fun v q => by rw [d2] at q; cases q⟩
  keep := fun i h h' st k => by
    obtain ⟨hz, hTI, ⟨x, y, hTO⟩, h1, h2⟩ := st
    exact ⟨k z (by simp) _ hz, k TI (by simp) _ hTI, ⟨x, y, k TO (by simp) _ hTO⟩, h1.to fun o q => k i1 (by simp) o q, h2.to fun o q => k i2 (by simp) o q⟩
  item := by
    intro X hP hw hK hc i pins s σ H E I hf st hg
    subst hP hw hK
    obtain ⟨hz, hTI, ⟨x0, y0, hTO⟩, h1, h2⟩ := st
    obtain ⟨xs, ys, x, y, hqx, hqy, hx, hy⟩ := hg
    obtain ⟨its, rv, p, _⟩ := I.list hqx
    obtain ⟨its2, rv2, p2, _⟩ := I.tuple hqy
    obtain ⟨u, hu, ru⟩ := rv.get hx
    obtain ⟨u2, hu2, ru2⟩ := rv2.get hy
    have hzl : z < s.heap.objs.size := Heap.lt_size hz
    refine next_more (b1 := false) (b2 := true) (xs := its.toArray) (ys := its2.toArray) ⟨D, hz, hTI, hTO, h1, h2, p.isList, p2⟩ (x := u) (y := u2) (by simpa using hu) (by simpa using hu2) fun h' z' TO' h1' h2' hT hsz hk => ?_
    refine ⟨_, rfl, wpAny_letOwnedTupleGo_zip (s := { s with heap := h' }) z' fun h'' z'' sb => ?_⟩
    have hT2 : h''.get? s.heap.objs.size = some { cls := .type "tuple", data := .seq #[u, u2] } := (sb.2 _ (Nat.ne_of_gt hzl)).trans hT
    have new : ObjOk X.prog X.w (upd H s.heap.objs.size (.tup [x, y])) h'' s.heap.objs.size (.tup [x, y]) :=
      ⟨by show 2 ≤ sizeLine; decide, [u, u2], .cons ru (.cons ru2 .nil), ⟨_, hT2, rfl, _, rfl⟩⟩
    have I1 : Inv X pins σ (upd H s.heap.objs.size (.tup [x, y])) { s with heap := h'' } :=
      I.turnedNew (t' := s.toks) (ch := [z, TI, TO, i1, i2]) (fun c o hb q => (sb.2 c (fun q' => hb (by simp [q']))).trans (hk c o (fun q' => hb (by simp [q'])) (fun q' => hb (by simp [q'])) (fun q' => hb (by simp [q'])) (fun q' => hb (by simp [q'])) q)) hf (Nat.le_refl _) new
    refine ⟨.ref s.heap.objs.size, _, I1, rfl, ⟨_, x, y, rfl, I.hok.fresh (Nat.le_refl _), rfl, fun l hl => by rw [I.list_inj hl hqx]; exact hx, fun l hl => by rw [I.tuple_inj hl hqy]; exact hy⟩, ⟨z'', ?_, ⟨u, u2, ?_⟩, ?_, ?_⟩, fun c hcm => ?_⟩
    · exact (sb.2 _ D.TIz).trans (hk _ _ D.TIz D.TITO D.TIi1 D.TIi2 hTI)
    · exact (sb.2 _ D.TOz).trans TO'
    · exact h1'.to fun o q => (sb.2 _ D.i1z).trans q
    · exact h2'.to fun o q => (sb.2 _ D.i2z).trans q
    · have hlt : c < s.heap.objs.size := by
        have e' : c = z ∨ c = TI ∨ c = TO ∨ c = i1 ∨ c = i2 := by simpa using hcm
        rcases e' with q | q | q | q | q
        · rw [q]; exact hzl
        · rw [q]; exact Heap.lt_size hTI
        · rw [q]; exact Heap.lt_size hTO
        · rw [q]; obtain ⟨_, e1, _⟩ := h1.obj; exact Heap.lt_size e1
        · rw [q]; obtain ⟨_, e2, _⟩ := h2.obj; exact Heap.lt_size e2
      rw [upd_ne (Nat.ne_of_lt hlt)]
      exact (hf c hcm).1
  done := by
    intro X hP hw hK hc i pins s σ H E I hf st hg
    subst hP hw hK
    obtain ⟨hz, hTI, ⟨x0, y0, hTO⟩, h1, h2⟩ := st
    obtain ⟨xs, ys, hqx, hqy, hend⟩ := hg
    obtain ⟨its, rv, p, _⟩ := I.list hqx
    obtain ⟨its2, rv2, p2, _⟩ := I.tuple hqy
    have l1 := rv.length
    have l2 := rv2.length
    have he : its.toArray[i]? = none ∨ its2.toArray[i]? = none := by
      rcases hend with q | q
      · exact .inl (by simp; omega)
      · exact .inr (by simp; omega)
    exact next_over (I.ok.hd hc) ⟨D, hz, hTI, hTO, h1, h2, p.isList, p2⟩ he fun h' hk => ⟨rfl, I.turnedL (t' := s.toks) (ch := [z, TI, TO, i1, i2]) (fun c o hb q =>
      hk c o (fun q' => hb (by simp [q'])) (fun q' => hb (by simp [q'])) (fun q' => hb (by simp [q'])) (fun q' => hb (by simp [q'])) q) hf⟩
  self := fun A i s Q E st h => wpAny_pyIter_zip st.1 h
/-- zip of two lists, of two tuples, of a tuple and a list -/
def iZipB (K : PySem.W.Frag) (ta : TA) : TI := fun σ H R => ta σ H fun vs H1 => ∃ a b xs ys, vs = [.ref a, .ref b] ∧ ((SqL K H1 a xs ∧ SqL K H1 b ys ∧ R (Itz K a b) H1) ∨ (SqT K H1 a xs ∧ SqT K H1 b ys ∧ R (RZ.ItzT K a b) H1) ∨ (SqT K H1 a xs ∧ SqL K H1 b ys ∧ R (ItM K a b) H1) ∨ (SqL K H1 a xs ∧ SqT K H1 b ys ∧ R (ItL K a b) H1))
theorem pi_zipB {X : Cx} {e e2 : Expr} {ta : TA} {p pos tpos : Pos} {elts : List Expr} {kk : Nat} (hg : Gl X "zip") (hm : X.mg "zip" = none) (ha : PA X [e, e2] ta)
    (hs : starEach [e, e2] X.env = (false, eval e X.env) :: starEach [e2] X.env := by rfl) (hpl : (backTo pos (starEach [e2] X.env)).any (·.1) = false := by rfl) :
    PI X (.Tuple elts kk tpos) (.Call (.Name "zip" p) [e, e2] [] pos) (iZipB X.K ta) := by
  refine ⟨fun pins s σ H R I h => ?_⟩
  refine Call_ (ld_blt I hg hm PyProof.Rows.boot_zip (PyProof.Rows.callWith_type1 (thn (ha.run pos pins s σ H _ I h) fun us s1 ⟨vs, H1, I1, r1, q1⟩ => ?_) hs hpl))
  obtain ⟨a, b, xs, ys, ex, q1⟩ := q1
  subst ex
  cases r1 with
  | cons r rr =>
  cases rr with
  | cons r' rr =>
  cases rr
  cases r
  cases r'
  have fresh5 : ∀ c, c ∈ [s1.heap.objs.size + 4, s1.heap.objs.size + 2, s1.heap.objs.size + 3, s1.heap.objs.size, s1.heap.objs.size + 1] → FpOk X pins H1 c := fun c hcm => by
    have hle : s1.heap.objs.size ≤ c := by
      simp only [List.mem_cons, List.not_mem_nil, or_false] at hcm
      omega
    exact I1.fpOk hle (I1.hok.fresh hle)
  rcases q1 with ⟨hqx, hqy, q⟩ | ⟨hqx, hqy, q⟩ | ⟨hqx, hqy, q⟩ | ⟨hqx, hqy, q⟩
  · obtain ⟨its, rv, p1, _⟩ := I1.list hqx
    obtain ⟨its2, rv2, p2, _⟩ := I1.list hqy
    exact call_zip_2 p1.isList p2.isList fun h' hz hTI hTO h1 h2 _ hk => wpAny_pyIter_zip hz ⟨_, [_, _, _, _, _], _, _, H1, rfl, I1.kept (t' := s1.toks) hk, turn_zip (PySem.W.ktu_apart s1.heap.objs.size a b p1.lt p2.lt), ⟨hz, hTI, ⟨_, _, hTO⟩, h1, h2⟩, fresh5, q⟩
  · obtain ⟨its, rv, p1, _⟩ := I1.tuple hqx
    obtain ⟨its2, rv2, p2, _⟩ := I1.tuple hqy
    obtain ⟨o1, ho1, _⟩ := id p1
    obtain ⟨o2, ho2, _⟩ := id p2
    exact RZ.call_zipT (show s1.heap.IsTuple a its.toArray from p1) (show s1.heap.IsTuple b its2.toArray from p2) fun h' hz hTI hTO h1 h2 _ hk => wpAny_pyIter_zip hz ⟨_, [_, _, _, _, _], _, _, H1, rfl, I1.kept (t' := s1.toks) hk, RZ.turn_zipT (PySem.W.ktu_apart s1.heap.objs.size a b (Heap.lt_size ho1) (Heap.lt_size ho2)), ⟨hz, hTI, ⟨_, _, hTO⟩, h1, h2⟩, fresh5, q⟩
  · obtain ⟨its, rv, p1, _⟩ := I1.tuple hqx
    obtain ⟨its2, rv2, p2, _⟩ := I1.list hqy
    obtain ⟨o1, ho1, _⟩ := id p1
    exact call_mz (show s1.heap.IsTuple a its.toArray from p1) p2.isList fun h' hz hTI hTO h1 h2 hk => wpAny_pyIter_zip hz ⟨_, [_, _, _, _, _], _, _, H1, rfl, I1.kept (t' := s1.toks) hk, turn_mz (PySem.W.ktu_apart s1.heap.objs.size a b (Heap.lt_size ho1) p2.lt), ⟨hz, hTI, ⟨_, _, hTO⟩, h1, h2⟩, fresh5, q⟩
  · obtain ⟨its, rv, p1, _⟩ := I1.list hqx
    obtain ⟨its2, rv2, p2, _⟩ := I1.tuple hqy
    obtain ⟨o2, ho2, _⟩ := id p2
    exact call_lz p1.isList (show s1.heap.IsTuple b its2.toArray from p2) fun h' hz hTI hTO h1 h2 hk => wpAny_pyIter_zip hz ⟨_, [_, _, _, _, _], _, _, H1, rfl, I1.kept (t' := s1.toks) hk, turn_lz (PySem.W.ktu_apart s1.heap.objs.size a b p1.lt (Heap.lt_size ho2)), ⟨hz, hTI, ⟨_, _, hTO⟩, h1, h2⟩, fresh5, q⟩
/-! the pairs, read -/
def zipV (f : Bool) (ds es : List D) : List Val := (List.zip ds es).map fun p => .v f (.tup [p.1, p.2])
section
variable {K : PySem.W.Frag} {M : List Addr} {Z : Addr → Prop} {H0 H H' : Hp} {F G : Addr → Prop} {ns : Nat → List Addr} {σ : L2.St} {ρ : Sto}
theorem itOk_zip {A B : Hp → List V → Prop} {vs us : List V} {ds es : List D} {tl tr : List Addr} {f g : Bool} (hA : ∀ H2, Ext F H H2 → A H2 vs) (hB : ∀ H2, Ext F H H2 → B H2 us) (r : RepL K H vs ds tl) (q : RepL K H us es tr)
    (f1 : f = true → ∀ b ∈ tl, H0 b = none) (f2 : g = true → ∀ b ∈ tr, H0 b = none) (F1 : ∀ b ∈ tl, F b) (F2 : ∀ b ∈ tr, F b) (Z1 : ∀ b ∈ tl, ¬ Z b) (Z2 : ∀ b ∈ tr, ¬ Z b) : ItOk K Z H0 F (ItG A B) H (zipV (f && g) ds es) := by
  have l1 := r.length
  have l2 := q.length
  have lz : (zipV (f && g) ds es).length = min ds.length es.length := by simp [zipV]
  refine ⟨fun i H2 e hi => ?_, fun i H2 e hi => ⟨vs, us, hA H2 e, hB H2 e, by omega⟩, fun i H2 v H3 e hi hy => ?_⟩
  · have i1 : i < vs.length := by omega
    have i2 : i < us.length := by omega
    exact ⟨vs, us, vs[i], us[i], hA H2 e, hB H2 e, List.getElem?_eq_getElem i1, List.getElem?_eq_getElem i2⟩
  · obtain ⟨T, x, y, rfl, hT, rfl, h1, h2⟩ := hy
    obtain ⟨d, ms, hd, rd, md⟩ := r.getV (h1 _ (hA H2 e))
    obtain ⟨d2, ms2, hd2, rd2, md2⟩ := q.getV (h2 _ (hB H2 e))
    have up : ∀ {v d ms}, Rep K H v d ms → (∀ b ∈ ms, F b) → Rep K (upd H2 T (.tup [x, y])) v d ms := fun r h => (r.frame e h).frame (Ext.same (F := fun _ => True) (same_upd hT)) fun _ _ => trivial
    refine ⟨f && g, .tup [d, d2], ms ++ ms2, ?_, same_upd hT, .tup (.inl (.inl upd_same)) (.cons (up rd fun b hb => F1 b (md b hb)) (.one (up rd2 fun b hb => F2 b (md2 b hb))) rfl), fun z b hb => ?_, fun b hb => ?_, fun b hb => ?_⟩
    · unfold zipV
      have : (List.zip ds es)[i]? = some (d, d2) := List.getElem?_zip_eq_some.mpr ⟨hd, hd2⟩
      rw [List.getElem?_map, this]
      rfl
    · have z' := Bool.and_eq_true_iff.mp z
      exact (List.mem_append.mp hb).elim (fun h => f1 z'.1 b (md b h)) fun h => f2 z'.2 b (md2 b h)
    · exact (List.mem_append.mp hb).elim (fun h => F1 b (md b h)) fun h => F2 b (md2 b h)
    · exact (List.mem_append.mp hb).elim (fun h => Z1 b (md b h)) fun h => Z2 b (md2 b h)
def kZipD (a : Option D) (f : Bool) (b : Option D) (g : Bool) (ρ : Sto) (P : List Val → Sto → Prop) : Prop := match a, b with
  | some (.lst x), some (.lst y) => P (zipV (f && g) x y) ρ
  | some (.lst x), some (.lsr y) => P (zipV (f && g) x y) ρ
  | some (.lsr x), some (.lst y) => P (zipV (f && g) x y) ρ
  | some (.lsr x), some (.lsr y) => P (zipV (f && g) x y) ρ
  | some (.tup x), some (.tup y) => P (zipV (f && g) x y) ρ
  | some (.tup x), some (.lst y) => P (zipV (f && g) x y) ρ
  | some (.tup x), some (.lsr y) => P (zipV (f && g) x y) ρ
  | some (.lst x), some (.tup y) => P (zipV (f && g) x y) ρ
  | some (.lsr x), some (.tup y) => P (zipV (f && g) x y) ρ
  | _, _ => False
def kZip : List Val → Sto → (List Val → Sto → Prop) → Prop := fun xs ρ P => match xs with
  | [x, y] => kZipD (res (putAll ρ xs) x) (resF (putAll ρ xs) x) (res (putAll ρ xs) y) (resF (putAll ρ xs) y) (putAll ρ xs) P
  | _ => False
theorem simI_zip {t : TA} {p : PAs} (h : SimA K t p) : SimI K (iZipB K t) (pIA kZip p) := fun M Z H0 F ns H σ ρ P R S hp k => by
  refine h M Z H0 F ns H σ ρ _ _ S hp fun xs vs H1 ns1 ρ1 S1 e1 d1 vxs q => ?_
  unfold kZip at q
  split at q
  · rename_i x y
    have S2 := putAll_sr [x, y] S1
    have vm := L2.Paired.mapP vxs fun _ _ z => z.move (putAll_dom [x, y] ρ1) fun _ _ => putAll_own [x, y]
    have d2 := d1.trans (putAll_dom [x, y] ρ1)
    have ax : Away (ns := ns1) (putAll ρ1 [x, y]) x := putAll_away [x, y] x (by simp)
    have ay : Away (ns := ns1) (putAll ρ1 [x, y]) y := putAll_away [x, y] y (by simp)
    cases vm with
    | @cons v _ vs' _ vx t =>
    cases t with
    | @cons u _ us' _ vy t =>
    cases t
    generalize putAll ρ1 [x, y] = ρ2 at q S2 vx vy d2 ax ay
    -- the two rows
    have rowL : ∀ {v : V} {z : Val} {ds : List D}, VOk K Z H0 F ns1 H1 σ ρ2 v z → Away (ns := ns1) ρ2 z → (res ρ2 z = some (.lst ds) ∨ res ρ2 z = some (.lsr ds)) → ∃ (a : Addr) (ws : List V) (tl ms : List Addr), v = .ref a ∧ RepL K H1 ws ds tl ∧ (∀ b ∈ tl, b ∈ ms) ∧ (∀ (F' : Addr → Prop), (∀ b ∈ ms, F' b) → ∀ H2, Ext F' H1 H2 → SqL K H2 a ws) ∧ (resF ρ2 z = true → ∀ b ∈ ms, H0 b = none) ∧ (∀ i c, Own ρ2 ns1 i c → c ∉ ms) ∧ (∀ b ∈ ms, ¬ Z b) ∧ (∀ b ∈ ms, ∃ o, H1 b = some o) := fun {v z ds} vz az hz => by
      rcases hz with hz | hz
      · obtain ⟨ms, r, f, o, y⟩ := vz.any S2 az hz
        have dm := r.dom
        cases r with
        | @lst a ws _ tl h1 r => exact ⟨a, ws, tl, _, rfl, r, fun b hb => List.mem_cons_of_mem _ hb, fun F' hF H2 e => .of (e.keep _ _ (hF _ List.mem_cons_self) h1), f, o, y, fun b hb => let ⟨o, e, _⟩ := dm b hb; ⟨o, e⟩⟩
      · obtain ⟨ms, r, f, o, y⟩ := vz.any S2 az hz
        have dm := r.dom
        cases r with
        | @lstR a ws _ tl h1 r => exact ⟨a, ws, _, _, rfl, r, fun b hb => hb, fun F' hF H2 e => h1 H2 fun ob w z => e.frzs _ _ _ z, f, o, y, fun b hb => let ⟨o, e, _⟩ := dm b hb; ⟨o, e⟩⟩
    have rowT : ∀ {v : V} {z : Val} {ds : List D}, VOk K Z H0 F ns1 H1 σ ρ2 v z → Away (ns := ns1) ρ2 z → res ρ2 z = some (.tup ds) → ∃ (a : Addr) (ws : List V) (ms : List Addr), v = .ref a ∧ RepL K H1 ws ds ms ∧ (∀ (F' : Addr → Prop) H2, Ext F' H1 H2 → SqT K H2 a ws) ∧ (resF ρ2 z = true → ∀ b ∈ ms, H0 b = none) ∧ (∀ i c, Own ρ2 ns1 i c → c ∉ ms) ∧ (∀ b ∈ ms, ¬ Z b) ∧ (∀ b ∈ ms, ∃ o, H1 b = some o) := fun {v z ds} vz az hz => by
      obtain ⟨ms, r, f, o, y⟩ := vz.any S2 az hz
      have dm := r.dom
      cases r with
      | @tup a ws _ tl h1 r => exact ⟨a, ws, _, rfl, r, fun F' H2 e => e.sqT h1, f, o, y, fun b hb => let ⟨o, e, _⟩ := dm b hb; ⟨o, e⟩⟩
    have more : ∀ ms ms' : List Addr, (∀ i c, Own ρ2 ns1 i c → c ∉ ms) → (∀ i c, Own ρ2 ns1 i c → c ∉ ms') → (∀ b ∈ ms, ∃ o, H1 b = some o) → (∀ b ∈ ms', ∃ o, H1 b = some o) → SR K M Z H0 (fun b => F b ∨ b ∈ ms ++ ms') ns1 H1 σ ρ2 := fun ms ms' o1 o2 m1 m2 =>
      S2.more (G := fun b => b ∈ ms ++ ms') (fun i b ow hm => (List.mem_append.mp hm).elim (o1 i b ow) (o2 i b ow)) fun b hb => (List.mem_append.mp hb).elim (m1 b) (m2 b)
    have ll : ∀ {ds es : List D}, (res ρ2 x = some (.lst ds) ∨ res ρ2 x = some (.lsr ds)) → (res ρ2 y = some (.lst es) ∨ res ρ2 y = some (.lsr es)) → P (zipV (resF ρ2 x && resF ρ2 y) ds es) ρ2 → (∃ a b xs ys, [v, u] = [V.ref a, .ref b] ∧ ((SqL K H1 a xs ∧ SqL K H1 b ys ∧ R (Itz K a b) H1) ∨ (SqT K H1 a xs ∧ SqT K H1 b ys ∧ R (RZ.ItzT K a b) H1) ∨ (SqT K H1 a xs ∧ SqL K H1 b ys ∧ R (ItM K a b) H1) ∨ (SqL K H1 a xs ∧ SqT K H1 b ys ∧ R (ItL K a b) H1))) := fun {ds es} hx hy q => by
      obtain ⟨a, ws, tl, ms, rfl, r, t1, s1, f1, o1, z1, m1⟩ := rowL vx ax hx
      obtain ⟨b, us, tr, ms', rfl, r', t2, s2, f2, o2, z2, m2⟩ := rowL vy ay hy
      exact ⟨a, b, ws, us, rfl, .inl ⟨s1 (fun _ => True) (fun _ _ => trivial) H1 (.refl H1), s2 (fun _ => True) (fun _ _ => trivial) H1 (.refl H1), k _ _ (fun b => F b ∨ b ∈ ms ++ ms') H1 ns1 _ (more ms ms' o1 o2 m1 m2) (fun b h => .inl h) e1 d2
        (itOk_zip (A := fun H xs => SqL K H a xs) (B := fun H ys => SqL K H b ys) (fun H2 e => s1 _ (fun c hc => .inr (List.mem_append_left _ hc)) H2 e) (fun H2 e => s2 _ (fun c hc => .inr (List.mem_append_right _ hc)) H2 e) r r' (fun z c hc => f1 z c (t1 c hc)) (fun z c hc => f2 z c (t2 c hc)) (fun c hc => .inr (List.mem_append_left _ (t1 c hc))) (fun c hc => .inr (List.mem_append_right _ (t2 c hc))) (fun c hc => z1 c (t1 c hc)) fun c hc => z2 c (t2 c hc)) q⟩⟩
    have tt : ∀ {ds es : List D}, res ρ2 x = some (.tup ds) → res ρ2 y = some (.tup es) → P (zipV (resF ρ2 x && resF ρ2 y) ds es) ρ2 → (∃ a b xs ys, [v, u] = [V.ref a, .ref b] ∧ ((SqL K H1 a xs ∧ SqL K H1 b ys ∧ R (Itz K a b) H1) ∨ (SqT K H1 a xs ∧ SqT K H1 b ys ∧ R (RZ.ItzT K a b) H1) ∨ (SqT K H1 a xs ∧ SqL K H1 b ys ∧ R (ItM K a b) H1) ∨ (SqL K H1 a xs ∧ SqT K H1 b ys ∧ R (ItL K a b) H1))) := fun {ds es} hx hy q => by
      obtain ⟨a, ws, ms, rfl, r, s1, f1, o1, z1, m1⟩ := rowT vx ax hx
      obtain ⟨b, us, ms', rfl, r', s2, f2, o2, z2, m2⟩ := rowT vy ay hy
      exact ⟨a, b, ws, us, rfl, .inr (.inl ⟨s1 (fun _ => True) H1 (.refl H1), s2 (fun _ => True) H1 (.refl H1), k _ _ (fun b => F b ∨ b ∈ ms ++ ms') H1 ns1 _ (more ms ms' o1 o2 m1 m2) (fun b h => .inl h) e1 d2
        (itOk_zip (A := fun H xs => SqT K H a xs) (B := fun H ys => SqT K H b ys) (fun H2 e => s1 _ H2 e) (fun H2 e => s2 _ H2 e) r r' f1 f2 (fun c hc => .inr (List.mem_append_left _ hc)) (fun c hc => .inr (List.mem_append_right _ hc)) z1 z2) q⟩)⟩
    have tl : ∀ {ds es : List D}, res ρ2 x = some (.tup ds) → (res ρ2 y = some (.lst es) ∨ res ρ2 y = some (.lsr es)) → P (zipV (resF ρ2 x && resF ρ2 y) ds es) ρ2 → (∃ a b xs ys, [v, u] = [V.ref a, .ref b] ∧ ((SqL K H1 a xs ∧ SqL K H1 b ys ∧ R (Itz K a b) H1) ∨ (SqT K H1 a xs ∧ SqT K H1 b ys ∧ R (RZ.ItzT K a b) H1) ∨ (SqT K H1 a xs ∧ SqL K H1 b ys ∧ R (ItM K a b) H1) ∨ (SqL K H1 a xs ∧ SqT K H1 b ys ∧ R (ItL K a b) H1))) := fun {ds es} hx hy q => by
      obtain ⟨a, ws, ms, rfl, r, s1, f1, o1, z1, m1⟩ := rowT vx ax hx
      obtain ⟨b, us, tr, ms', rfl, r', t2, s2, f2, o2, z2, m2⟩ := rowL vy ay hy
      exact ⟨a, b, ws, us, rfl, .inr (.inr (.inl ⟨s1 (fun _ => True) H1 (.refl H1), s2 (fun _ => True) (fun _ _ => trivial) H1 (.refl H1), k _ _ (fun b => F b ∨ b ∈ ms ++ ms') H1 ns1 _ (more ms ms' o1 o2 m1 m2) (fun b h => .inl h) e1 d2
        (itOk_zip (A := fun H xs => SqT K H a xs) (B := fun H ys => SqL K H b ys) (fun H2 e => s1 _ H2 e) (fun H2 e => s2 _ (fun c hc => .inr (List.mem_append_right _ hc)) H2 e) r r' f1 (fun z c hc => f2 z c (t2 c hc)) (fun c hc => .inr (List.mem_append_left _ hc)) (fun c hc => .inr (List.mem_append_right _ (t2 c hc))) z1 fun c hc => z2 c (t2 c hc)) q⟩))⟩
    have lt : ∀ {ds es : List D}, (res ρ2 x = some (.lst ds) ∨ res ρ2 x = some (.lsr ds)) → res ρ2 y = some (.tup es) → P (zipV (resF ρ2 x && resF ρ2 y) ds es) ρ2 → (∃ a b xs ys, [v, u] = [V.ref a, .ref b] ∧ ((SqL K H1 a xs ∧ SqL K H1 b ys ∧ R (Itz K a b) H1) ∨ (SqT K H1 a xs ∧ SqT K H1 b ys ∧ R (RZ.ItzT K a b) H1) ∨ (SqT K H1 a xs ∧ SqL K H1 b ys ∧ R (ItM K a b) H1) ∨ (SqL K H1 a xs ∧ SqT K H1 b ys ∧ R (ItL K a b) H1))) := fun {ds es} hx hy q => by
      obtain ⟨a, ws, tl, ms, rfl, r, t1, s1, f1, o1, z1, m1⟩ := rowL vx ax hx
      obtain ⟨b, us, ms', rfl, r', s2, f2, o2, z2, m2⟩ := rowT vy ay hy
      exact ⟨a, b, ws, us, rfl, .inr (.inr (.inr ⟨s1 (fun _ => True) (fun _ _ => trivial) H1 (.refl H1), s2 (fun _ => True) H1 (.refl H1), k _ _ (fun b => F b ∨ b ∈ ms ++ ms') H1 ns1 _ (more ms ms' o1 o2 m1 m2) (fun b h => .inl h) e1 d2
        (itOk_zip (A := fun H xs => SqL K H a xs) (B := fun H ys => SqT K H b ys) (fun H2 e => s1 _ (fun c hc => .inr (List.mem_append_left _ hc)) H2 e) (fun H2 e => s2 _ H2 e) r r' (fun z c hc => f1 z c (t1 c hc)) f2 (fun c hc => .inr (List.mem_append_left _ (t1 c hc))) (fun c hc => .inr (List.mem_append_right _ hc)) (fun c hc => z1 c (t1 c hc)) z2) q⟩))⟩
    unfold kZipD at q
    split at q
    · rename_i hx hy; exact ll (.inl hx) (.inl hy) q
    · rename_i hx hy; exact ll (.inl hx) (.inr hy) q
    · rename_i hx hy; exact ll (.inr hx) (.inl hy) q
    · rename_i hx hy; exact ll (.inr hx) (.inr hy) q
    · rename_i hx hy; exact tt hx hy q
    · rename_i hx hy; exact tl hx (.inl hy) q
    · rename_i hx hy; exact tl hx (.inr hy) q
    · rename_i hx hy; exact lt (.inl hx) hy q
    · rename_i hx hy; exact lt (.inr hx) hy q
    · exact q.elim
  · exact q.elim
end
section
variable {X : Cx} {a b : Expr} {tr : TA} {pr : PAs}
theorem qizip {p1 pos tpos : Pos} {elts : List Expr} {kk : Nat} (hm : X.mg "zip" = none) (ha : QA X [a, b] tr pr) (hg : Gl X "zip" := by rfl) (hs : starEach [a, b] X.env = (false, eval a X.env) :: starEach [b] X.env := by rfl) (hpl : (backTo pos (starEach [b] X.env)).any (·.1) = false := by rfl) :
    QI X (.Tuple elts kk tpos) (.Call (.Name "zip" p1) [a, b] [] pos) (iZipB X.K tr) (pIA kZip pr) := ⟨pi_zipB hg hm ha.pa hs hpl, simI_zip ha.sim⟩
end
/-! ranges downward as values -/
def dnV (i j : Int) : List V := (List.range (i - j).toNat).map fun (k : Nat) => V.int (i + (k : Int) * (-1))
theorem dnV_len (i j : Int) : (dnV i j).length = (i - j).toNat := by unfold dnV; rw [List.length_map, List.length_range]
theorem vals_dn {i j : Int} {acc : Array Value} (h : ItemsOf (fun k v => ∃ t, v = .int (i + k * (-1)) t) acc (i - j).toNat) : Vals (dnV i j) acc.toList := by
  have e : acc.toList.length = (i - j).toNat := by rw [Array.length_toList]; exact h.1
  unfold dnV
  rw [← e]
  refine vals_of_get acc.toList _ fun k u hk => ?_
  obtain ⟨t, rfl⟩ := h.2 k u (by rw [← hk, Array.getElem?_toList])
  exact ⟨t, rfl⟩
def DnOk (i j : Int) : Prop := R62 i ∧ R62 j ∧ (i - j).toNat ≤ 2 ^ 24
def tDn (mk : List V → HO) (ta : TA) : TE := fun σ H Q => ta σ H fun vs H1 => ∃ i j, vs = [.int i, .int j, .int (-1)] ∧ DnOk i j ∧ ∀ q, H1 q = none → Q (.ref q) (upd H1 q (mk (dnV i j)))
section
variable {X : Cx} {a b c : Expr} {ta : TA} {p p2 pos pos2 : Pos}
theorem pe_tupDn (hc : X.calm = true) (hg : Gl X "tuple") (hm : X.mg "tuple" = none) (hg2 : Gl X "range") (hm2 : X.mg "range" = none) (ha : PA X [a, b, c] ta)
    (hs : starEach [a, b, c] X.env = (false, eval a X.env) :: starEach [b, c] X.env := by rfl) (hpl : (backTo pos2 (starEach [b, c] X.env)).any (·.1) = false := by rfl)
    (hs2 : starEach [.Call (.Name "range" p2) [a, b, c] [] pos2] X.env = (false, eval (.Call (.Name "range" p2) [a, b, c] [] pos2) X.env) :: starEach [] X.env := by rfl) :
    PE X (.Call (.Name "tuple" p) [.Call (.Name "range" p2) [a, b, c] [] pos2] [] pos) (tDn .tup ta) := by
  refine ⟨fun pins s σ H Q I h => ?_⟩
  refine Call_ (ld_blt I hg hm boot_tuple (PyProof.Rows.callWith_type1 (args_cons (Call_ (ld_blt I hg2 hm2 boot_range (PyProof.Rows.callWith_type1 (thn (ha.run pos2 pins s σ H _ I h) fun us s1 ⟨vs, H1, I1, r1, q1⟩ => ?_) hs hpl))) hs2) hs2 rfl))
  obtain ⟨i, j, e, ⟨⟨a1, a2⟩, ⟨b1, b2⟩, ln⟩, q⟩ := q1
  subst e
  cases r1 with
  | cons r rr =>
  cases rr with
  | cons r' rr =>
  cases rr with
  | cons r'' rr =>
  cases rr
  obtain ⟨t, rfl⟩ := r
  obtain ⟨t', rfl⟩ := r'
  obtain ⟨t'', rfl⟩ := r''
  refine call_range_3 (by decide) ?_ (.inl (PyProof.noPylong_small (by decide)))
  refine args_nil ?_
  have I2 := I1.kept (t' := s1.toks) (h' := s1.heap.push { cls := Value.type "range", data := Data.fields #[Value.int i t, Value.int j t', Value.int (-1) t''] }) fun b o e => Heap.get?_push_of_some _ e
  refine call_tuple_range (s := { s1 with heap := s1.heap.push { cls := Value.type "range", data := Data.fields #[Value.int i t, Value.int j t', Value.int (-1) t''] } }) (n := (i - j).toNat) (I1.ok.hd hc) (IsRange.new _ _ _ _ _ _ _) (PySem.W.small_down a1 a2 b1 b2) (PySem.W.rangeSize_downNat i j) ln fun h' tk acc hk hi => ?_
  have I3 : Inv X pins σ H1 { s1 with heap := h', toks := tk } := I2.kept hk
  refine ⟨.ref h'.objs.size, upd H1 h'.objs.size (.tup (dnV i j)), I3.laid (t' := tk) (fun c o e => Heap.get?_push_of_some _ e) (Nat.le_refl _) (show ObjOk X.prog X.w _ _ _ (.tup (dnV i j)) from ⟨?_, acc.toList, vals_dn hi, ?_⟩), rfl, q _ (I3.hok.fresh (Nat.le_refl _))⟩
  · rw [dnV_len, sizeLine_eq]; omega
  · rw [Array.toArray_toList]; exact IsTup.new _ _
end
section
variable {K : PySem.W.Frag} {H : Hp}
theorem dnV_rep (i j : Int) : RepL K H (dnV i j) (rgD i (-1) (i - j).toNat) [] := by
  unfold dnV rgD
  exact repL_ints (f := fun k => i + (k : Int) * (-1)) _
end
def pTupDn (p : PAs) : PX := fun ρ P => p ρ fun xs ρ1 => match resAll ρ1 xs with
  | some [.int i, .int j, .int c] => c = -1 ∧ DnOk i j ∧ P (.v true (.tup (rgD i (-1) (i - j).toNat))) ρ1
  | _ => False
theorem sim_tupDn {K : PySem.W.Frag} {t : TA} {p : PAs} (h : SimA K t p) : Sim K (tDn .tup t) (pTupDn p) := fun M Z H0 F ns H σ ρ P Q S hp kk => by
  refine h M Z H0 F ns H σ ρ _ _ S hp fun xs vs H1 ns1 ρ1 S1 e1 d1 vx q => ?_
  split at q
  · rename_i i j c e
    obtain ⟨rfl, ok, q⟩ := q
    refine ⟨i, j, resAll_ints3 S1 vx e, ok, fun p hp => ?_⟩
    have I : Items K Z H0 H1 ns1 ρ1 true (dnV i j) (rgD i (-1) (i - j).toNat) [] := ⟨dnV_rep i j, (fun _ _ h => nomatch h), (fun _ _ _ h => nomatch h), (fun _ h => nomatch h)⟩
    exact kk _ _ _ ns1 ρ1 (S1.grow (same_upd hp)) (e1.trans (.same (same_upd hp))) d1 (VOk.newT S1 hp I) q
  · exact q.elim
section
variable {X : Cx} {a b c : Expr} {ta tb tc : TE} {pa pb pc : PX}
theorem qtuprg3 {p1 q1 q2 pos : Pos} (hc : X.calm = true) (hm : X.mg "tuple" = none) (hr : X.mg "range" = none) (h : QE X a ta pa) (h' : QE X b tb pb) (h'' : QE X c tc pc) (hg : Gl X "tuple" := by rfl) (hg2 : Gl X "range" := by rfl) (na : starEach [a, b, c] X.env = (false, eval a X.env) :: starEach [b, c] X.env := by rfl) (nb : starEach [b, c] X.env = (false, eval b X.env) :: starEach [c] X.env := by rfl) (nc : starEach [c] X.env = (false, eval c X.env) :: starEach [] X.env := by rfl)
    (hp : (backTo q2 (starEach [b, c] X.env)).any (·.1) = false := by rfl)
    (na2 : starEach [.Call (.Name "range" q1) [a, b, c] [] q2] X.env = (false, eval (.Call (.Name "range" q1) [a, b, c] [] q2) X.env) :: starEach [] X.env := by rfl) : QE X (.Call (.Name "tuple" p1) [.Call (.Name "range" q1) [a, b, c] [] q2] [] pos) (tDn .tup (tCons ta (tCons tb (tCons tc tNil)))) (pTupDn (pCons pa (pCons pb (pOne pc)))) :=
  ⟨pe_tupDn hc hg hm hg2 hr (pa_cons h.pe (pa_cons h'.pe (pa_cons h''.pe pa_nil nc) nb) na) na hp na2, sim_tupDn (simA_cons h.sim (simA_cons h'.sim (simA_one h''.sim)))⟩
end
/-! a range, walked back -/
def pIRev (p : PAs) : PI' := fun ρ P => p ρ fun xs ρ1 => match resAll ρ1 xs with
  | some [.int a, .int b] => (R62 a ∧ R62 b) ∧ P (rgs (a + (((b - a).toNat : Nat) : Int) - 1) (-1) (b - a).toNat) ρ1
  | _ => False
theorem simI_rev {K : PySem.W.Frag} {t : L2.St → Hp → (Int → Int → Hp → Prop) → Prop} {p : PAs} (h : SimR K t p) : SimI K (iRevR t) (pIRev p) := fun M Z H0 F ns H σ ρ P R S hp k => by
  refine h M Z H0 F ns H σ ρ _ _ S hp fun a b xs H1 ns1 ρ1 S1 e1 d1 hx q => ?_
  simp only [hx] at q
  exact ⟨q.1.1.1, q.1.1.2, q.1.2.1, q.1.2.2, k _ _ F H1 ns1 ρ1 S1 (fun _ h => h) e1 d1 itOk_rangeC q.2⟩
section
variable {X : Cx} {e : Expr} {te : TE} {pe : PX}
theorem qirevr1 {tg : Expr} {p1 q1 q2 pos : Pos} (hm : X.mg "reversed" = none) (hr : X.mg "range" = none) (h : QE X e te pe) (hg : Gl X "reversed" := by rfl) (hg2 : Gl X "range" := by rfl) (na : starEach [e] X.env = (false, eval e X.env) :: starEach [] X.env := by rfl)
    (na2 : starEach [.Call (.Name "range" q1) [e] [] q2] X.env = (false, eval (.Call (.Name "range" q1) [e] [] q2) X.env) :: starEach [] X.env := by rfl) : QI X tg (.Call (.Name "reversed" p1) [.Call (.Name "range" q1) [e] [] q2] [] pos) (iRevR (tRg1 te)) (pIRev (rgArgs1 pe)) :=
  ⟨pi_revR hg hm (prg_1 hg2 hr h.pe na) na2, simI_rev (simR_1 h.sim)⟩
end
end Qq

namespace Qq
open PySem PySem.Spec PyProof.Rows L2
section
variable {K : PySem.W.Frag} {M : List Addr} {Z : Addr → Prop} {H0 H H' : Hp} {F G : Addr → Prop} {ns : Nat → List Addr} {σ : L2.St} {ρ : Sto}

theorem VOk.unhide {Y : Addr → Prop} {v : V} {x : Val} (k : VOk K Y H0 F ns H σ ρ v x) (h : ∀ b, Z b → Y b) : VOk K Z H0 F ns H σ ρ v x := by
  cases k with
  | v r f o y => exact .v r f o fun b hb q => y b hb (h b q)
  | s h1 h2 => exact .s h1 h2
  | f h1 r n f g i o z y => exact .f h1 r n f g i o z fun b hb q => y b hb (h b q)
/-- arguments of which the first stays new -/
def pConsF (p : PX) (r : PAs) : PAs := fun ρ P => p ρ fun x ρ1 => r ρ1 fun xs ρ2 => P (x :: xs) ρ2
theorem simA_consF {t : TE} {p : PX} {tr : TA} {pr : PAs} (h : Sim K t p) (hr : SimA K tr pr) : SimA K (tCons t tr) (pConsF p pr) := fun M Z H0 F ns H σ ρ P Q S hp k => by
  refine h M Z H0 F ns H σ ρ _ _ S hp fun x v H1 ns1 ρ1 S1 e1 d1 vx q => ?_
  have plain : (x.dn = x) → tr σ H1 fun vs H' => Q (v :: vs) H' := fun ex => by
    have vx' : VOk K Z H0 F ns1 H1 σ ρ1 v x.dn := vx.dn
    obtain ⟨G, g, gd, hold⟩ := vx'.hold (M := M)
    rw [ex] at hold
    refine hr M Z H0 _ ns1 H1 σ ρ1 _ _ (S1.more g gd) q fun xs vs H2 ns2 ρ2 S2 e2 d2 vxs q => ?_
    exact k _ _ H2 ns2 ρ2 (S2.weak fun b h => .inl h) (e1.trans (e2.weak fun b h => .inl h)) (d1.trans d2) (.cons (hold _ ns2 H2 ρ2 (fun b h => .inr h) S2 e2 d2) (L2.Paired.mapP vxs fun _ _ z => z.weak fun b h => .inl h)) q
  cases x with
  | v fr d => exact plain rfl
  | s i => exact plain rfl
  | f fr ds =>
    cases vx with
    | @f a _ vs _ tl h1 r n f g i o nF y =>
    have so : ∀ b, b = a ∨ b ∈ tl → ∃ o, H1 b = some o := fun b hb => by
      rcases hb with rfl | hb
      · exact ⟨_, h1⟩
      · obtain ⟨o, e, _⟩ := r.dom b hb
        exact ⟨o, e⟩
    have no : ∀ j b, Own ρ1 ns1 j b → ¬ (b = a ∨ b ∈ tl) := fun j b ow q => by
      rcases q with rfl | q
      · exact i j ow.mem
      · exact o j b ow q
    refine hr M _ H0 _ ns1 H1 σ ρ1 _ _ ((S1.more (G := fun b => b = a ∨ b ∈ tl) no so).hide i ⟨_, h1⟩) q fun xs us H2 ns2 ρ2 S2 e2 d2 vxs q => ?_
    refine k _ _ H2 ns2 ρ2 ((S2.weak fun b h => .inl h).show' fun b h => .inl h) (e1.trans (e2.weak fun b h => .inl h)) (d1.trans d2) (.cons ?_ (L2.Paired.mapP vxs fun _ _ z => (z.weak fun b h => .inl h).unhide fun b h => .inl h)) q
    refine .f (e2.keep _ _ (.inr (.inl rfl)) h1) (r.frame e2 fun b hb => .inr (.inr hb)) n f g (fun j hj => S2.hid j a hj (.inr rfl)) (fun j b ow hb => S2.frz j b ow (.inr (.inr hb))) nF y
theorem qconsF (h : QE X e te pe) (h' : QA X es tr pr) (hs : starEach (e :: es) X.env = (false, eval e X.env) :: starEach es X.env := by rfl) : QA X (e :: es) (tCons te tr) (pConsF pe pr) := ⟨pa_cons h.pe h'.pa hs, simA_consF h.sim h'.sim⟩

/-! ### displays of dicts -/
theorem VOk.newD (S : SR K M Z H0 F ns H σ ρ) {p : Addr} (hp : H p = none) {kvs : List (Key × V)} {ks : List Key} {vs : List V} {ds : List D} (e : kvs = ks.zip vs) (hl : ks.length = vs.length) (H' : Hp) (h1 : H' p = some (.dK kvs)) (r : RepL K H' vs ds []) : VOk K Z H0 F ns H' σ ρ (.ref p) (.v true (.dic ks ds)) :=
  .v (.dic (e ▸ h1) hl r) (fun _ b hb => by simp at hb; rw [hb]; exact S.fresh hp) (fun i a ow hb => by
    simp at hb
    exact S.notIn hp i (hb ▸ ow.mem)) fun b hb f => by
    simp at hb
    obtain ⟨o, e⟩ := S.zdm b f
    rw [hb, hp] at e; cases e
def pDic0 : PX := fun ρ P => P (.v true (.dic [] [])) ρ
theorem sim_dic0 : Sim K tDNewK pDic0 := fun M Z H0 F ns H σ ρ P Q S hp k p hpn =>
  k _ _ _ ns ρ (S.grow (same_upd hpn)) (.same (same_upd hpn)) (.refl ρ) (VOk.newD S hpn (ks := []) (vs := []) rfl rfl _ upd_same .nil) hp
def pDic1 (κ : Key) (d : D) : PX := fun ρ P => P (.v true (.dic [κ] [d])) ρ
theorem sim_dic1 {κ : Key} {v : V} {d : D} (r : ∀ H, Rep K H v d []) : Sim K (tDisp [(tC (kV κ), tC v)]) (pDic1 κ d) := fun M Z H0 F ns H σ ρ P Q S hp k p hpn => by
  refine ⟨upd_same, [(κ, v)], rfl, by simp, ?_⟩
  have sm : Same H (upd (upd H p (.dK [])) p (.dK (mergeK [] [(κ, v)]))) := fun b o hb => by
    have hne : b ≠ p := fun q => by rw [q, hpn] at hb; cases hb
    rw [upd_ne hne, upd_ne hne]
    exact hb
  exact k _ _ _ ns ρ (S.grow sm) (.same sm) (.refl ρ) (VOk.newD S hpn (ks := [κ]) (vs := [v]) rfl rfl _ upd_same (.cons (r _) .nil rfl)) hp
section
variable {X : Cx} {e ek ev : Expr} {es : List Expr} {pos p1 : Pos} {tr : TA} {pr : PAs} {pk pv : PX}
theorem qdic0 : QE X (.Dict [] [] pos) tDNewK pDic0 := ⟨pe_dnewK, sim_dic0⟩
theorem qdic1 (κ : Key) (v : V) {d : D} (hk : QE X ek (tC (kV κ)) pk) (hv : QE X ev (tC v) pv) (r : ∀ H, Rep X.K H v d []) : QE X (.Dict [some ek] [ev] pos) (tDisp [(tC (kV κ), tC v)]) (pDic1 κ d) :=
  ⟨pe_disp (pps_cons hk.pe hv.pe pps_nil) rfl rfl (fun z => by cases z) (by simp), sim_dic1 r⟩

/-! ### calls with numbers that fill up -/
def GotD (P : Program) (w : World) (K : PySem.W.Frag) (mg : Str → Option Value) (base : Heap) (k : Nat) (x : Str) (ps : List Str) (n : Nat) (S : Spec') (js : List Int) : Prop :=
  ∃ (f : Addr) (fd : FuncData) (ds : List Value), FnOk P w K mg base CX0 k f fd ps (spQ K n none S) ∧ mg x = some (.ref f) ∧ PySem.W.keepIn K (.ref f) = true ∧ Binds K fd ps ds ∧ Vals (js.map V.int) ds
def pApp (p : PAs) (js : List Int) : PAs := fun ρ P => p ρ fun xs ρ1 => P (xs ++ js.map fun j => .v true (.int j)) ρ1
def tApp (t : TA) (vs : List V) : TA := fun σ H Q => t σ H fun us H1 => Q (us ++ vs) H1
theorem pair_app {α β : Type} {r : α → β → Prop} {a a' : List α} {b b' : List β} (h : Paired r a b) (h' : Paired r a' b') : Paired r (a ++ a') (b ++ b') := by
  induction h with
  | nil => exact h'
  | cons x _ ih => exact .cons x ih
theorem simA_app {t : TA} {p : PAs} {js : List Int} (h : SimA K t p) : SimA K (tApp t (js.map V.int)) (pApp p js) := fun M Z H0 F ns H σ ρ P Q S hp k =>
  h M Z H0 F ns H σ ρ _ _ S hp fun xs vs H1 ns1 ρ1 S1 e1 d1 vxs q => k _ _ H1 ns1 ρ1 S1 e1 d1 (by
    have z : Paired (VOk K Z H0 F ns1 H1 σ ρ1) (js.map V.int) (js.map fun j => Val.v true (.int j)) := by
      clear hp h k q
      induction js with
      | nil => exact .nil
      | cons j js ih => exact .cons (.int j) ih
    exact pair_app vxs z) q
theorem qcallD {x : Str} {k n : Nat} {ps : List Str} {S : Spec'} {js : List Int} (G : GotD X.prog X.w X.K X.mg X.base k x ps n S js) (hr : Room k X.A) (ha : QA X (e :: es) tr pr)
    (hg : Gl X x := by rfl) (hdb : (x == ("__debug__" : Str)) = false := by decide) (he : starEach (e :: es) X.env = (false, eval e X.env) :: starEach es X.env := by rfl) (hpl : (backTo pos (starEach es X.env)).any (·.1) = false := by rfl) : QE X (.Call (.Name x p1) (e :: es) [] pos) (tCall (spQ X.K n none S) (js.map V.int) E0 tr) (pCall n none S (pApp pr js)) := by
  obtain ⟨f, fd, ds, h1, h2, h3, h4, h5⟩ := G
  refine ⟨pe_call h1 hr hg h2 h3 h4 h5 pass0 ha.pa hdb he hpl, ?_⟩
  · have s := sim_call (n := n) (mu := none) (S := S) (simA_app (js := js) ha.sim)
    intro M Z H0 F ns H σ ρ P Q S' hp kk
    have := s M Z H0 F ns H σ ρ P Q S' hp kk
    unfold tCall tApp at this
    simp only [List.append_nil] at this
    exact this
end
end
end Qq

namespace Qq
open PySem PySem.Spec PyProof.Rows L2
/-- what a row holds, each with its number -/
def ItE (A : Hp → List V → Prop) : It :=
  ⟨fun i H => ∃ (xs : List V) (x : V), A H xs ∧ xs[i]? = some x,
    fun i H v H' => ∃ T x, v = .ref T ∧ H T = none ∧ H' = upd H T (.tup [.int (i : Nat), x]) ∧ ∀ xs, A H xs → xs[i]? = some x,
    fun i H => ∃ xs : List V, A H xs ∧ xs.length ≤ i⟩
/-- what is drawn is what stands there -/
structure Fed (P : Program) (w : World) (K : PySem.W.Frag) (A : Hp → List V → Prop) (e it : Addr) (SS : Nat → Heap → Prop) : Prop where
  apart : e ≠ it
  obj : ∀ i h, SS i h → ∃ o, h.get? it = some o ∧ ∀ v, o.data ≠ .cell v
  keep : ∀ i h h', SS i h → (∀ o, h.get? it = some o → h'.get? it = some o) → SS i h'
  one : ∀ {H xs ys}, A H xs → A H ys → ∀ (X : Cx), X.K = K → ∀ (pins : List (Addr × Obj)) (s : Shared) (σ : L2.St), Inv X pins σ H s → xs = ys
  draws : ∀ (X : Cx), X.prog = P → X.w = w → X.K = K → X.calm = true → ∀ (i : Nat) (pins : List (Addr × Obj)) (s : Shared) (σ : L2.St) (H : Hp) (xs : List V), Inv X pins σ H s → A H xs → SS i s.heap →
    ∃ (fp : List Addr) (Pv : Nat → Value → Prop) (St : Nat → Heap → Prop), Draws P w X.A.in1 it fp xs.length Pv St ∧ St i s.heap ∧ e ∉ fp ∧ (∀ j v, Pv j v → ∃ x, xs[j]? = some x ∧ RelV x v) ∧ ∀ h, i < xs.length → St (i + 1) h → SS (i + 1) h
  over : ∀ (X : Cx), X.prog = P → X.w = w → X.K = K → X.calm = true → ∀ (i : Nat) (pins : List (Addr × Obj)) (s : Shared) (σ : L2.St) (H : Hp) (xs : List V), Inv X pins σ H s → A H xs → SS i s.heap → xs.length ≤ i →
    ∃ (fp : List Addr) (Pv : Nat → Value → Prop) (St : Nat → Heap → Prop), Draws P w X.A.in1 it fp i Pv St ∧ St i s.heap
theorem turn_fed {P : Program} {w : World} {K : PySem.W.Frag} {A : Hp → List V → Prop} {e it : Addr} {SS : Nat → Heap → Prop} (D : Fed P w K A e it SS) (elts : List Expr) (kk : Nat) (tpos : Pos) :
    Turn P w K (.Tuple elts kk tpos) (ItE A) [e, it] e (fun i h => (∃ old, IsEnum h e it ((i : Nat) : Int) old) ∧ SS i h) where
  mem := by simp
  obj := fun i h st c hc => by
    obtain ⟨⟨old, he⟩, hs⟩ := st
    have e' : c = e ∨ c = it := by simpa using hc
    rcases e' with q | q
    · rw [q]; exact ⟨_, he, fun v q => nomatch q⟩
    · rw [q]; exact D.obj i h hs
  keep := fun i h h' st k => let ⟨⟨old, he⟩, hs⟩ := st; ⟨⟨old, k e (by simp) _ he⟩, D.keep i h h' hs fun o q => k it (by simp) o q⟩
  item := by
    intro X hP hw hK hc i pins s σ H E I hf st hg
    have DD := D.draws X hP hw hK hc i pins s σ H
    subst hP hw hK
    obtain ⟨⟨old, he⟩, hs⟩ := st
    obtain ⟨xs, x, hq, hx⟩ := hg
    obtain ⟨fp, Pv, St, dr, st, hef, rel, back⟩ := DD xs I hq hs
    have hlt : i < xs.length := (List.getElem?_eq_some_iff.mp hx).1
    have hel : e < s.heap.objs.size := Heap.lt_size he
    have hil : it < s.heap.objs.size := by obtain ⟨_, q, _⟩ := D.obj i _ hs; exact Heap.lt_size q
    refine wpAny_pyNext_enum_itemD dr he st hlt D.apart hef fun u h1 tk hu ho st1 hT hsz hk => ?_
    obtain ⟨x', hx', ru⟩ := rel i u hu
    rw [hx] at hx'; cases hx'
    refine ⟨_, rfl, wpAny_letOwnedTupleGo_enum (s := { s with heap := h1, toks := tk + 1 }) ho fun h2 he' sb => ?_⟩
    have n1 : s.heap.objs.size ≠ e := Nat.ne_of_gt hel
    have hT2 := (sb.2 _ n1).trans hT
    let O : HO := .tup [.int (i : Nat), x]
    have new : ObjOk X.prog X.w (upd H s.heap.objs.size O) h2 s.heap.objs.size O := ⟨by show 2 ≤ sizeLine; decide, _, .cons ⟨_, rfl⟩ (.cons ru .nil), ⟨_, hT2, rfl, _, rfl⟩⟩
    have I1 : Inv X pins σ (upd H s.heap.objs.size O) { s with heap := h2, toks := tk + 1 } :=
      I.turnedNew (ch := [e, it]) (fun c o hb q => (sb.2 c (fun q' => hb (by simp [q']))).trans (hk c o (fun q' => hb (by simp [q'])) (fun q' => hb (by simp [q'])) q)) hf (Nat.le_refl _) new
    refine ⟨.ref s.heap.objs.size, _, I1, rfl, ⟨_, x, rfl, I.hok.fresh (Nat.le_refl _), rfl, fun ys hy => by rw [D.one hy hq X rfl pins s σ I]; exact hx⟩, ⟨⟨u, ?_⟩, D.keep _ h1 h2 (back _ hlt st1) fun o q => (sb.2 it (Ne.symm D.apart)).trans q⟩, fun c hcm => ?_⟩
    · have := he'
      rw [← Int.natCast_add_one] at this
      exact this
    · have hlt : c < s.heap.objs.size := by
        have e' : c = e ∨ c = it := by simpa using hcm
        rcases e' with q | q
        · rw [q]; exact hel
        · rw [q]; exact hil
      rw [upd_ne (Nat.ne_of_lt hlt)]
      exact (hf c hcm).1
  done := by
    intro X hP hw hK hc i pins s σ H E I hf st hg
    have DD := D.over X hP hw hK hc i pins s σ H
    subst hP hw hK
    obtain ⟨⟨old, he⟩, hs⟩ := st
    obtain ⟨xs, hq, hx⟩ := hg
    obtain ⟨fp, Pv, St, dr, st⟩ := DD xs I hq hs hx
    obtain ⟨f0, f1, f2, f3, f4, f5⟩ := hf it (by simp)
    exact wpAny_pyNext_enum_endD dr he st fun h' eb => ⟨rfl, I.turned (t' := s.toks) (fun c o hb q => eb c o hb q) f0 f1 f3 f4 f5⟩
  self := fun A i s Q E st h => let ⟨⟨_, he⟩, _⟩ := st; wpAny_pyIter_enum he h

theorem fed_tup {P : Program} {w : World} {K : PySem.W.Frag} {a e it : Addr} (h1 : e ≠ it) (h2 : a ≠ it) (h3 : a ≠ e) : Fed P w K (fun H xs => SqT K H a xs) e it (fun i h => RowIt true h it a i) where
  apart := h1
  obj := fun i h hs => by
    obtain ⟨o, e1, d⟩ := hs.obj
    exact ⟨o, e1, fun v q => by rw [d] at q; cases q⟩
  keep := fun i h h' hs k => hs.to k
  one := fun hx hy X hK pins s σ I => by subst hK; exact I.tuple_inj hx hy
  draws := fun X hP hw hK hc i pins s σ H xs I hq hs => by
    subst hP hw hK
    obtain ⟨its, rv, p, _⟩ := I.tuple hq
    have le : its.toArray.size = xs.length := by simp [rv.length]
    have D := Draws.tuple (prog := X.prog) (w := X.w) (A := X.A.in1) (I.ok.hd hc) it a h2 its.toArray
    rw [le] at D
    refine ⟨_, _, _, D, ⟨hs, p⟩, by simp [h1, Ne.symm h3], fun j v hv => ?_, fun h _ st => st.1⟩
    have hj : its[j]? = some v := by simpa using hv
    have hlt : j < xs.length := by
      have := (List.getElem?_eq_some_iff.mp hj).1
      rw [rv.length]; exact this
    obtain ⟨u, hu, ru⟩ := rv.get (List.getElem?_eq_getElem hlt)
    rw [hj] at hu; cases hu
    exact ⟨_, List.getElem?_eq_getElem hlt, ru⟩
  over := fun X hP hw hK hc i pins s σ H xs I hq hs hx => by
    subst hP hw hK
    obtain ⟨its, rv, p, _⟩ := I.tuple hq
    have le : its.toArray[i]? = none := by simp [← rv.length, hx]
    exact ⟨[it, a], fun _ _ => False, fun j h => j = i ∧ RowIt true h it a i ∧ RowAt true h a its.toArray, ⟨fun j h st => let ⟨o, e, _⟩ := st.2.1.obj; ⟨o, e⟩, fun j h h' st k => ⟨st.1, st.2.1.to fun o q => k it (by simp) o q, st.2.2.at fun o q => k a (by simp) o q⟩, fun j s Q E hj st => absurd st.1 (Nat.ne_of_lt hj), fun s Q E st hE => end_row (b := true) (I.ok.hd hc) st.2.1 st.2.2 le hE⟩, rfl, hs, p⟩
theorem fed_lst {P : Program} {w : World} {K : PySem.W.Frag} {a e it : Addr} (h1 : e ≠ it) (h2 : a ≠ it) (h3 : a ≠ e) : Fed P w K (fun H xs => SqL K H a xs) e it (fun i h => RowIt false h it a i) where
  apart := h1
  obj := fun i h hs => by
    obtain ⟨o, e1, d⟩ := hs.obj
    exact ⟨o, e1, fun v q => by rw [d] at q; cases q⟩
  keep := fun i h h' hs k => hs.to k
  one := fun hx hy X hK pins s σ I => by subst hK; exact I.list_inj hx hy
  draws := fun X hP hw hK hc i pins s σ H xs I hq hs => by
    subst hP hw hK
    obtain ⟨its, rv, p, _⟩ := I.list hq
    have le : its.toArray.size = xs.length := by simp [rv.length]
    have D := Draws.list (prog := X.prog) (w := X.w) (A := X.A.in1) (I.ok.hd hc) it a h2 its.toArray
    rw [le] at D
    refine ⟨_, _, _, D, ⟨hs, p.isList⟩, by simp [h1, Ne.symm h3], fun j v hv => ?_, fun h _ st => st.1⟩
    have hj : its[j]? = some v := by simpa using hv
    have hlt : j < xs.length := by
      have := (List.getElem?_eq_some_iff.mp hj).1
      rw [rv.length]; exact this
    obtain ⟨u, hu, ru⟩ := rv.get (List.getElem?_eq_getElem hlt)
    rw [hj] at hu; cases hu
    exact ⟨_, List.getElem?_eq_getElem hlt, ru⟩
  over := fun X hP hw hK hc i pins s σ H xs I hq hs hx => by
    subst hP hw hK
    obtain ⟨its, rv, p, _⟩ := I.list hq
    have le : its.toArray[i]? = none := by simp [← rv.length, hx]
    exact ⟨[it, a], fun _ _ => False, fun j h => j = i ∧ RowIt false h it a i ∧ RowAt false h a its.toArray, ⟨fun j h st => let ⟨o, e, _⟩ := st.2.1.obj; ⟨o, e⟩, fun j h h' st k => ⟨st.1, st.2.1.to fun o q => k it (by simp) o q, st.2.2.at fun o q => k a (by simp) o q⟩, fun j s Q E hj st => absurd st.1 (Nat.ne_of_lt hj), fun s Q E st hE => end_row (b := false) (I.ok.hd hc) st.2.1 st.2.2 le hE⟩, rfl, hs, p.isList⟩
def sgs (z : Str) : List V := z.cps.toList.map fun c => .str ⟨#[c]⟩
theorem fed_str {P : Program} {w : World} {K : PySem.W.Frag} {z : Str} {t : Tok} {e it : Addr} (h1 : e ≠ it) : Fed P w K (fun _ xs => xs = sgs z) e it (fun i h => h.IsStrIter it (strIterType z) z t i ∧ i ≤ z.cps.size) where
  apart := h1
  obj := fun i h hs => by
    obtain ⟨⟨o, e1, c, d⟩, _⟩ := hs
    exact ⟨o, e1, fun v q => by rw [d] at q; cases q⟩
  keep := fun i h h' hs k => by
    obtain ⟨⟨o, e1, r⟩, q⟩ := hs
    exact ⟨⟨o, k o e1, r⟩, q⟩
  one := fun hx hy X hK pins s σ I => hx.trans hy.symm
  draws := fun X hP hw hK hc i pins s σ H xs I hq hs => by
    subst hP hw hK hq
    have D := Draws.text (prog := X.prog) (w := X.w) (A := X.A.in1) (I.ok.hd hc) it z t
    have le : z.cps.size = (sgs z).length := by simp [sgs]
    rw [le] at D
    refine ⟨_, _, _, D, hs.1, by simp [h1], fun j v hv => ?_, fun h hl st => ⟨st, by rw [le]; omega⟩⟩
    obtain ⟨c, u, hc', rfl⟩ := hv
    refine ⟨.str ⟨#[c]⟩, ?_, u, rfl⟩
    unfold sgs
    rw [List.getElem?_map]
    have : z.cps.toList[j]? = some c := by rw [Array.getElem?_toList]; exact hc'
    rw [this]
    rfl
  over := fun X hP hw hK hc i pins s σ H xs I hq hs hx => by
    subst hP hw hK hq
    have D := Draws.text (prog := X.prog) (w := X.w) (A := X.A.in1) (I.ok.hd hc) it z t
    have le : z.cps.size = i := by
      have : z.cps.size = (sgs z).length := by simp [sgs]
      have := hs.2
      omega
    rw [le] at D
    exact ⟨_, _, _, D, hs.1⟩
/-! enumerate of a tuple: made -/
abbrev et1 (h : Heap) (l : Addr) : Heap := h.push { cls := .type "tuple_iterator", data := .fields #[.ref l, .int 0 0] }
abbrev et2 (h : Heap) (l : Addr) : Heap := (et1 h l).push { cls := .type "enumerate", data := .fields #[.none, .bool false, .ref h.objs.size, rawInt 0, .none, .none] }
theorem made_et (l : Addr) (xs : Array Value) : Meets (Builtin.«enumerate.__new__» ⟨[.type "enumerate", .ref l], []⟩) (fun _ R s => s.heap.IsTuple l xs ∧ R (.ok (.ret (.ref (et1 s.heap l).objs.size))) { s with heap := et2 s.heap l }) :=
  .of_wp fun prog w A R s h => by
    obtain ⟨hp, g, d, tk, os⟩ := s
    obtain ⟨hl, h⟩ := h
    have hsub := sub_enumerate
    have L1 : Heap.IsTuple (Shared.heap ⟨hp, g, d, tk, os⟩) l xs := hl
    wp_walk using wpAny_pyIter_tuple L1
    refine wpAny_stack_any fun frames => ?_
    apply wpAny_pure
    split
    · rename_i cc _ _ _ _ _
      rcases (cc == Value.type "enumerate") with _ | _
      all_goals
        wp_walk using wpAny_pyIter_tuple L1
        exact ⟨_, rfl, h⟩
    · wp_walk using wpAny_pyIter_tuple L1
      exact ⟨_, rfl, h⟩
theorem call_et {prog : Program} {w : World} {A : Around} {E : Value → Shared → Prop} {s : Shared} {l : Addr} {xs : Array Value} {Q : Value → Shared → Prop} (hl : s.heap.IsTuple l xs)
    (h : ∀ h', IsEnum h' (s.heap.objs.size + 1) s.heap.objs.size 0 .none → RowIt true h' s.heap.objs.size l 0 → (∀ c o, s.heap.get? c = some o → h'.get? c = some o) → Q (.ref (s.heap.objs.size + 1)) { s with heap := h' }) :
    wpAny (model prog w) A (call (.type "enumerate") [.ref l]) Q E s := by
  refine callType_new F.called_enumerate (by decide) (F.typeCall_enumerate_1 _) (F.newCall_enumerate_1 _) (fun obj => F.args_object_init_2 obj _) F.entry_enumerate_new (made_et l xs) ⟨hl, ?_⟩
  have n1 : (et1 s.heap l).objs.size = s.heap.objs.size + 1 := Heap.size_push ..
  have g2 : (et2 s.heap l).get? (et1 s.heap l).objs.size = some _ := Heap.get?_push_size _ rfl
  have g1 : (et2 s.heap l).get? s.heap.objs.size = some _ := Heap.get?_push_of_some _ (Heap.get?_push_size _ rfl)
  show _ ∧ _
  rw [n1] at g2 ⊢
  exact ⟨⟨_, g2, rfl⟩, h _ g2 ⟨_, g1, rfl, rfl⟩ fun c o q => Heap.get?_push_of_some _ (Heap.get?_push_of_some _ q)⟩
/-- enumerate of a list, of a tuple, of a text -/
def iEnB (K : PySem.W.Frag) (ta : TA) : TI := fun σ H R => ta σ H fun vs H1 => (∃ a xs, vs = [.ref a] ∧ SqL K H1 a xs ∧ R (ItE fun H xs => SqL K H a xs) H1) ∨ (∃ a xs, vs = [.ref a] ∧ SqT K H1 a xs ∧ R (ItE fun H xs => SqT K H a xs) H1) ∨ ∃ z, vs = [.str z] ∧ R (ItE fun _ xs => xs = sgs z) H1
theorem pi_enB {X : Cx} {e : Expr} {ta : TA} {p pos tpos : Pos} {elts : List Expr} {kk : Nat} (hg : Gl X "enumerate") (hm : X.mg "enumerate" = none) (ha : PA X [e] ta) (hs : starEach [e] X.env = [(false, eval e X.env)] := by rfl) :
    PI X (.Tuple elts kk tpos) (.Call (.Name "enumerate" p) [e] [] pos) (iEnB X.K ta) := by
  refine ⟨fun pins s σ H R I h => ?_⟩
  refine Call_ (ld_blt I hg hm PyProof.Rows.boot_enumerate (PyProof.Rows.callWith_type1 (thn (ha.run pos pins s σ H _ I h) fun us s1 ⟨vs, H1, I1, r1, q1⟩ => ?_) hs rfl))
  have fresh2 : ∀ c, c ∈ [s1.heap.objs.size + 1, s1.heap.objs.size] → FpOk X pins H1 c := fun c hcm => by
    have hle : s1.heap.objs.size ≤ c := by
      simp only [List.mem_cons, List.not_mem_nil, or_false] at hcm
      omega
    exact I1.fpOk hle (I1.hok.fresh hle)
  rcases q1 with ⟨a, xs, rfl, hq, q⟩ | ⟨a, xs, rfl, hq, q⟩ | ⟨z, rfl, q⟩
  · cases r1 with
    | cons r rr =>
    cases rr
    cases r
    obtain ⟨its, rv, p1, _⟩ := I1.list hq
    have lt := p1.lt
    exact call_enumerate_list p1.isList fun h' he hit _ hk => wpAny_pyIter_enum he ⟨_, [_, _], _, _, H1, rfl, I1.kept (t' := s1.toks) hk, turn_fed (fed_lst (P := X.prog) (w := X.w) (Nat.succ_ne_self _) (Nat.ne_of_lt lt) (Nat.ne_of_lt (Nat.lt_succ_of_lt lt))) elts kk tpos, ⟨⟨_, he⟩, hit⟩, fresh2, q⟩
  · cases r1 with
    | cons r rr =>
    cases rr
    cases r
    obtain ⟨its, rv, p1, _⟩ := I1.tuple hq
    obtain ⟨o1, ho1, _⟩ := id p1
    have lt := Heap.lt_size ho1
    exact call_et (show s1.heap.IsTuple a its.toArray from p1) fun h' he hit hk => wpAny_pyIter_enum he ⟨_, [_, _], _, _, H1, rfl, I1.kept (t' := s1.toks) hk, turn_fed (fed_tup (P := X.prog) (w := X.w) (Nat.succ_ne_self _) (Nat.ne_of_lt lt) (Nat.ne_of_lt (Nat.lt_succ_of_lt lt))) elts kk tpos, ⟨⟨_, he⟩, hit⟩, fresh2, q⟩
  · cases r1 with
    | cons r rr =>
    cases rr
    obtain ⟨t, rfl⟩ := r
    exact call_enumerate_str fun h' he hit _ hk => wpAny_pyIter_enum he ⟨_, [_, _], _, _, H1, rfl, I1.kept (t' := s1.toks) hk, turn_fed (fed_str (P := X.prog) (w := X.w) (K := X.K) (Nat.succ_ne_self _)) elts kk tpos, ⟨⟨_, he⟩, hit, Nat.zero_le _⟩, fresh2, q⟩
/-! the pairs, read -/
def enumV (f : Bool) : Nat → List D → List Val
  | _, [] => []
  | k, d :: ds => .v f (.tup [.int k, d]) :: enumV f (k + 1) ds
@[simp] theorem enumV_len (f : Bool) : ∀ (k : Nat) (ds : List D), (enumV f k ds).length = ds.length
  | _, [] => rfl
  | k, d :: ds => by simp [enumV, enumV_len f (k + 1) ds]
theorem enumV_get (f : Bool) : ∀ (k : Nat) (ds : List D) (i : Nat) (d : D), ds[i]? = some d → (enumV f k ds)[i]? = some (.v f (.tup [.int ((k + i : Nat) : Int), d]))
  | k, d :: ds, 0, e, h => by
    simp at h
    simp [enumV, h]
  | k, d :: ds, i + 1, e, h => by
    have := enumV_get f (k + 1) ds i e (by simpa using h)
    rw [enumV, List.getElem?_cons_succ, this]
    congr 6
    omega
section
variable {K : PySem.W.Frag} {M : List Addr} {Z : Addr → Prop} {H0 H H' : Hp} {F G : Addr → Prop} {ns : Nat → List Addr} {σ : L2.St} {ρ : Sto}
theorem itOk_enum {A : Hp → List V → Prop} {vs : List V} {ds : List D} {tl : List Addr} {f : Bool} (hA : ∀ H2, Ext F H H2 → A H2 vs) (r : RepL K H vs ds tl)
    (f1 : f = true → ∀ b ∈ tl, H0 b = none) (F1 : ∀ b ∈ tl, F b) (Z1 : ∀ b ∈ tl, ¬ Z b) : ItOk K Z H0 F (ItE A) H (enumV f 0 ds) := by
  have l1 := r.length
  have lz := enumV_len f 0 ds
  refine ⟨fun i H2 e hi => ?_, fun i H2 e hi => ⟨vs, hA H2 e, by omega⟩, fun i H2 v H3 e hi hy => ?_⟩
  · have i1 : i < vs.length := by omega
    exact ⟨vs, vs[i], hA H2 e, List.getElem?_eq_getElem i1⟩
  · obtain ⟨T, x, rfl, hT, rfl, h1⟩ := hy
    obtain ⟨d, ms, hd, rd, md⟩ := r.getV (h1 _ (hA H2 e))
    have up : ∀ {v d ms}, Rep K H v d ms → (∀ b ∈ ms, F b) → Rep K (upd H2 T (.tup [.int (i : Nat), x])) v d ms := fun r h => (r.frame e h).frame (Ext.same (F := fun _ => True) (same_upd hT)) fun _ _ => trivial
    refine ⟨f, .tup [.int (i : Nat), d], ms, ?_, same_upd hT, .tup (.inl (.inl upd_same)) (.cons (.int _) (.one (up rd fun b hb => F1 b (md b hb))) rfl), fun z b hb => f1 z b (md b hb), fun b hb => F1 b (md b hb), fun b hb => Z1 b (md b hb)⟩
    have := enumV_get f 0 ds i d hd
    rw [Nat.zero_add] at this
    exact this
def kEnD (a : Option D) (f : Bool) (ρ : Sto) (P : List Val → Sto → Prop) : Prop := match a with
  | some (.lst x) => P (enumV f 0 x) ρ
  | some (.lsr x) => P (enumV f 0 x) ρ
  | some (.tup x) => P (enumV f 0 x) ρ
  | some (.str x) => P (enumV true 0 (x.map fun c => .str [c])) ρ
  | _ => False
def pEnum (p : PX) : PI' := fun ρ P => p ρ fun x ρ1 => kEnD (res (put ρ1 x) x) (resF (put ρ1 x) x) (put ρ1 x) P
theorem simI_enum {t : TE} {p : PX} (h : Sim K t p) : SimI K (iEnB K (tCons t tNil)) (pEnum p) := fun M Z H0 F ns H σ ρ P R S hp k => by
  refine h M Z H0 F ns H σ ρ _ _ S hp fun x v H1 ns1 ρ1 S1 e1 d1 vx q => ?_
  have S2 := put_sr S1 x
  have vx2 := vx.move (put_dom ρ1 x) fun _ _ => put_own (x := x)
  have d2 := d1.trans (put_dom ρ1 x)
  have aw : Away (ns := ns1) (put ρ1 x) x := put_away
  show (∃ a xs, [v] = [V.ref a] ∧ _) ∨ _
  unfold kEnD at q
  split at q
  · rename_i ds hx
    obtain ⟨ms, r, f, o, y⟩ := vx2.any S2 aw hx
    cases r with
    | @lst a vs _ tl h1 r =>
      refine .inl ⟨a, vs, rfl, .of h1, k _ _ (fun b => F b ∨ b ∈ a :: tl) H1 ns1 _ (S2.more (G := fun b => b ∈ a :: tl) (fun i b ow hm => o i b ow hm) fun b hb => let ⟨z, e, _⟩ := (Rep.lst h1 r).dom b hb; ⟨z, e⟩) (fun b h => .inl h) e1 d2 ?_ q⟩
      exact itOk_enum (A := fun H xs => SqL K H a xs) (fun H2 e => .of (e.keep _ _ (.inr List.mem_cons_self) h1)) r (fun e b hb => f e b (List.mem_cons_of_mem _ hb)) (fun b hb => .inr (List.mem_cons_of_mem _ hb)) fun b hb => y b (List.mem_cons_of_mem _ hb)
  · rename_i ds hx
    obtain ⟨ms, r, f, o, y⟩ := vx2.any S2 aw hx
    cases r with
    | @lstR a vs _ tl h1 r =>
      refine .inl ⟨a, vs, rfl, h1 H1 fun _ _ z => z, k _ _ (fun b => F b ∨ b ∈ ms) H1 ns1 _ (S2.more (G := fun b => b ∈ ms) (fun i b ow hm => o i b ow hm) fun b hb => let ⟨z, e, _⟩ := r.dom b hb; ⟨z, e⟩) (fun b h => .inl h) e1 d2 ?_ q⟩
      exact itOk_enum (A := fun H xs => SqL K H a xs) (fun H2 e => h1 H2 fun ob u z => e.frzs _ _ _ z) r f (fun b hb => .inr hb) y
  · rename_i ds hx
    obtain ⟨ms, r, f, o, y⟩ := vx2.any S2 aw hx
    cases r with
    | @tup a vs _ tl h1 r =>
      refine .inr (.inl ⟨a, vs, rfl, h1, k _ _ (fun b => F b ∨ b ∈ ms) H1 ns1 _ (S2.more (G := fun b => b ∈ ms) (fun i b ow hm => o i b ow hm) fun b hb => let ⟨z, e, _⟩ := r.dom b hb; ⟨z, e⟩) (fun b h => .inl h) e1 d2 ?_ q⟩)
      exact itOk_enum (A := fun H xs => SqT K H a xs) (fun H2 e => e.sqT h1) r f (fun b hb => .inr hb) y
  · rename_i y hx
    obtain ⟨z, rfl, e⟩ := vx2.strV S2 hx
    refine .inr (.inr ⟨z, rfl, k _ _ F H1 ns1 _ S2 (fun _ h => h) e1 d2 (itOk_enum (A := fun _ xs => xs = sgs z) (vs := sgs z) (tl := []) (fun _ _ => rfl) ?_ (fun _ b hb => nomatch hb) (fun b hb => nomatch hb) fun b hb => nomatch hb) q⟩)
    unfold sgs
    rw [e]
    clear q hx e
    induction y with
    | nil => exact .nil
    | cons c y ih => exact .cons (.str rfl) ih rfl
  · exact q.elim
section
variable {X : Cx} {a : Expr} {ta : TE} {pa : PX}
theorem qienum {p1 pos tpos : Pos} {elts : List Expr} {kk : Nat} (hm : X.mg "enumerate" = none) (h : QE X a ta pa) (hg : Gl X "enumerate" := by rfl) (hs : starEach [a] X.env = [(false, eval a X.env)] := by rfl) :
    QI X (.Tuple elts kk tpos) (.Call (.Name "enumerate" p1) [a] [] pos) (iEnB X.K (tCons ta tNil)) (pEnum pa) := ⟨pi_enB hg hm (pa_cons h.pe pa_nil hs) hs, simI_enum h.sim⟩
end
end

/-! x.pop(j) -/
section
variable {K : PySem.W.Frag} {M : List Addr} {Z : Addr → Prop} {H0 H H' : Hp} {F G : Addr → Prop} {ns : Nat → List Addr} {σ : L2.St} {ρ : Sto}
def kPopAt (i : Nat) (y : Val) (ρ1 : Sto) (P : Val → Sto → Prop) : Prop := match ρ1[i]?, res ρ1 y with
  | some (some (.ow k fr ds)), some (.int z) => -(2 ^ 63) ≤ z ∧ z < 2 ^ 63 ∧ ∃ j d, ixN ds.length z = some j ∧ ds[j]? = some d ∧ P (.v fr d) (ρ1.set i (some (.ow k fr (ds.eraseIdx j))))
  | _, _ => False
def pPopAt (i : Nat) (p : PX) : PX := fun ρ P => match ρ[i]? with
  | some (some (.ow _ _ _)) => p ρ fun y ρ1 => kPopAt i y ρ1 P
  | _ => False
theorem sim_popAt {i : Nat} {t : TE} {p : PX} (h : Sim K t p) : Sim K (tBM K "list" rPopAt (tVar i) (tCons t tNil)) (pPopAt i p) := fun M Z H0 F ns H σ ρ P Q S hp kk => by
  unfold pPopAt at hp
  split at hp
  · rename_i _ _ _ e0
    obtain ⟨a, vs0, tl0, e1, h0⟩ := S.head e0
    refine ⟨_, e1, tyV_list h0.obj, h M Z H0 F ns H σ ρ _ _ S hp fun y v H1 ns1 ρ1 S1 x1 d1 vy q => ?_⟩
    unfold kPopAt at q
    split at q
    · rename_i k fr ds z e hz
      obtain ⟨z1, z2, j, d, hj, hd, q⟩ := q
      have ev := vy.intV S1 hz
      subst ev
      obtain ⟨a', vs, tl, e1', hh⟩ := S1.head e
      rw [e1] at e1'; cases e1'
      obtain ⟨v, ms, hv, r, hm⟩ := hh.rep.get hd
      obtain ⟨ul, r2, hu⟩ := hh.rep.erase j
      obtain ⟨ns', S3, oE⟩ := S1.write e e1 hh r2 (fun z => hh.out (hu a z)) (fun z b hb => hh.fre z b ((List.mem_cons.mp hb).elim (fun q => by rw [q]; exact List.mem_cons_self) fun q => List.mem_cons_of_mem _ (hu b q))) (fun j b ob hb => hh.items.own j b ob (hu b hb)) fun b hb => hh.items.hid b (hu b hb)
      have lv := hh.rep.length
      refine ⟨a, vs, z, j, v, rfl, rfl, hh.obj, z1, z2, by rw [lv]; exact (ixN_seq hj).1, hv, ?_⟩
      refine kk _ _ _ ns' _ S3 (x1.trans (ext_write hh.obj hh.nF)) (d1.trans (dom_set e)) (.v (r.frame (ext_write (F := fun b => b ≠ a) hh.obj fun q => q rfl) fun b hb q => hh.out (q ▸ hm b hb)) (fun z b hb => hh.items.fre z b (hm b hb)) (fun j b ob hb => hh.items.own j b (oE j b ob) (hm b hb)) fun b hb => hh.items.hid b (hm b hb)) q
    · exact q.elim
  · exact hp.elim
end
section
variable {X : Cx} {e : Expr} {te : TE} {pe : PX} {p1 p2 pos : Pos}
theorem qpopat (i : Nat) {x : Str} (h : QE X e te pe) (hN : X.N[i]? = some x := by rfl) (hv : Vis X.env.scope x := by first | exact Or.inl rfl | exact Or.inr (Or.inl rfl) | exact Or.inr (Or.inr rfl)) (hd : (x == ("__debug__" : Str)) = false := by decide)
    (hcd : (x == ("__classdict__" : Str)) = false := by decide) (hbase : attributeBase (.Name x p1) "pop" X.env (eval (.Name x p1) X.env) = eval (.Name x p1) X.env := by rfl)
    (hfew : ((backTo pos (starEach (e :: []) X.env)).all (fun x => !x.1) && (backToKw pos (keywordEach [] X.env)).all (fun x => x.1.isSome)
      && decide ((e :: []).length + ([] : List Keyword).length + (if ([] : List Keyword).isEmpty then 0 else 1) < 30)) = true := by rfl)
    (hline : (p2.endLine == pos.line) = true := by rfl) (hs : starEach (e :: []) X.env = (false, eval e X.env) :: starEach [] X.env := by rfl) (hplain : (backTo pos (starEach [] X.env)).any (·.1) = false := by rfl) :
    QE X (.Call (.Attribute (.Name x p1) "pop" p2) [e] [] pos) (tBM X.K "list" rPopAt (tVar i) (tCons te tNil)) (pPopAt i pe) :=
  ⟨pe_bm PySem.F.plainAttrs_list PySem.F.slot_list_pop PySem.F.type_list_pop mt_popAt (pe_var hN hv hd hcd) (pa_cons h.pe pa_nil hs) hbase hfew hline hs hplain, sim_popAt h.sim⟩
end

/-! a new list of numbers and texts is new in all its parts -/
def kUpV (y : Val) (ρ : Sto) (P : Val → Sto → Prop) : Prop := match y with
  | .f fr ds => P (.f (fr || imms ds) ds) ρ
  | y => P y ρ
def kUp (k : KC) : KC := fun xs ρ P => k xs ρ fun y ρ1 => kUpV y ρ1 P
theorem sim_up {K : PySem.W.Frag} {r : List V → Hp → VK → Prop} {k : KC} (h : CallSim K r k) : CallSim K r (kUp k) := fun M Z H0 F ns H σ ρ P Q xs vs S vxs hp kk =>
  h M Z H0 F ns H σ ρ _ Q xs vs S vxs hp fun x v H1 ns1 ρ1 S1 e1 d1 vx q => by
    cases x with
    | v fr d => exact kk _ v H1 ns1 ρ1 S1 e1 d1 vx q
    | s i => exact kk _ v H1 ns1 ρ1 S1 e1 d1 vx q
    | f fr ds =>
      cases vx with
      | @f a _ vs _ tl h1 r n f g i o nF y =>
      refine kk _ _ H1 ns1 ρ1 S1 e1 d1 (.f h1 r n (fun z b hb => ?_) g i o nF y) q
      cases fr with
      | true => exact f rfl b hb
      | false =>
        have : tl = [] := r.imm (by simpa using z)
        rw [this] at hb
        cases hb
end Qq

namespace Qq
open PySem PySem.Spec PyProof.Rows L2
section
variable {K : PySem.W.Frag} {M : List Addr} {Z : Addr → Prop} {H0 H H' : Hp} {F G : Addr → Prop} {ns : Nat → List Addr} {σ : L2.St} {ρ : Sto}
/-! ### a text's methods -/
/-- what a method with one argument answers -/
def tx (x : List Nat) : Str := ⟨x.toArray⟩
theorem tx_of {z : Str} {x : List Nat} (h : z.cps.toList = x) : z = tx x := by
  obtain ⟨c⟩ := z
  unfold tx
  rw [← h]
theorem tx_cps {x : List Nat} : (tx x).cps.toList = x := by unfold tx; simp
theorem tx_len {x : List Nat} : (tx x).length = x.length := str_len tx_cps
/-- x.find(y) -/
def occB (x y : List Nat) (i : Nat) : Bool := decide (i + y.length ≤ x.length) && (x.drop i).take y.length == y
def findN (x y : List Nat) : Int := match (List.range (x.length + 1)).find? (occB x y) with
  | some i => (i : Int)
  | none => -1
open Builtin Builtin.Str PySem.StrLaws in
theorem occ_first (s sub : Str) (hi : Nat) : ∀ (l : List Nat) (free : Nat), (∀ i ∈ l, free ≤ i) →
    (forIn l ((#[] : Array Nat), free) (occBody s sub hi 1)).run.fst = match l.find? (fun i => decide (i + sub.length ≤ hi) && subAt s sub i) with
      | some i => #[i]
      | none => #[]
  | [], free, _ => by simp
  | a :: l, free, hf => by
    rw [List.forIn_cons]
    have ha : free ≤ a := hf a (List.mem_cons_self ..)
    have full : ∀ (l : List Nat) (b f : Nat), (forIn l ((#[b] : Array Nat), f) (occBody s sub hi 1)).run.fst = #[b] := by
      intro l
      induction l with
      | nil => intro b f; rfl
      | cons c l ih =>
        intro b f
        rw [List.forIn_cons]
        have hc : ¬ ((((#[b] : Array Nat), f).fst.size < 1 ∧ ((#[b] : Array Nat), f).snd ≤ c) ∧ c + sub.length ≤ hi) := fun h => by simp at h
        unfold occBody
        rw [if_neg (fun h => hc h.1)]
        exact ih b f
    by_cases hc : a + sub.length ≤ hi ∧ subAt s sub a = true
    · have c1 : (((#[] : Array Nat), free).fst.size < 1 ∧ ((#[] : Array Nat), free).snd ≤ a) ∧ a + sub.length ≤ hi := ⟨⟨by simp, ha⟩, hc.1⟩
      rw [List.find?_cons_of_pos (by simp [hc.1, hc.2])]
      unfold occBody
      rw [if_pos ⟨c1, hc.2⟩]
      exact full l a _
    · have c2 : ¬ (((((#[] : Array Nat), free).fst.size < 1 ∧ ((#[] : Array Nat), free).snd ≤ a) ∧ a + sub.length ≤ hi) ∧ subAt s sub a = true) := fun h => hc ⟨h.1.2, h.2⟩
      rw [List.find?_cons_of_neg (by simpa using hc)]
      have ih := occ_first s sub hi l free (fun i hi' => hf i (List.mem_cons_of_mem _ hi'))
      unfold occBody at ih ⊢
      rw [if_neg c2]
      exact ih
theorem subAt_tx {x y : List Nat} {i : Nat} : Builtin.Str.subAt (tx x) (tx y) i = ((x.drop i).take y.length == y) := by
  rw [StrLaws.subAt_eq, tx_cps, tx_cps, tx_len]
theorem find_tx {x y : List Nat} : PySem.Txt.find (tx x) (tx y) = findN x y := by
  unfold PySem.Txt.find findN
  rw [StrLaws.occ_eq, tx_len]
  have h := occ_first (tx x) (tx y) x.length (List.range' 0 (x.length + 1 - 0)) 0 (fun _ _ => Nat.zero_le _)
  rw [h]
  have e : (fun i => decide (i + (tx y).length ≤ x.length) && Builtin.Str.subAt (tx x) (tx y) i) = occB x y := by
    funext i
    rw [subAt_tx, tx_len]
    rfl
  rw [e, Nat.sub_zero, List.range_eq_range']
  cases (List.range' 0 (x.length + 1)).find? (occB x y) <;> rfl
def pTM1 (g : List Nat → D → (D → Prop) → Prop) (po pe : PX) : PX := fun ρ P => po ρ fun x ρ1 => match res ρ1 x with
  | some (.str a) => pe ρ1 fun y ρ2 => match res ρ2 y with
    | some d => g a d fun z => P (.v true z) ρ2
    | none => False
  | _ => False
def TMR (K : PySem.W.Frag) (r : V → List V → Hp → VK → Prop) (g : List Nat → D → (D → Prop) → Prop) : Prop := ∀ (H : Hp) (a : List Nat) (u : V) (d : D) (ms : List Addr) (C : D → Prop) (Q : VK), Rep K H u d ms → g a d C → (∀ w z, Rep K H w z [] → C z → Q w H) → r (.str (tx a)) [u] H Q
theorem sim_tm1 {r : V → List V → Hp → VK → Prop} {g : List Nat → D → (D → Prop) → Prop} {to te : TE} {po pe : PX} (hr : TMR K r g) (ho : Sim K to po) (he : Sim K te pe) : Sim K (tM1 r to te) (pTM1 g po pe) := fun M Z H0 F ns H σ ρ P Q S hp kk => by
  refine ho M Z H0 F ns H σ ρ _ _ S hp fun x v H1 ns1 ρ1 S1 e1 d1 vx q => ?_
  split at q
  · rename_i a hx
    obtain ⟨z, rfl, ez⟩ := vx.strV S1 hx
    have ez := tx_of ez
    subst ez
    refine ⟨⟨_, rfl⟩, he M Z H0 F ns1 H1 σ ρ1 _ _ S1 q fun y u H2 ns2 ρ2 S2 e2 d2 vy q => ?_⟩
    split at q
    · rename_i d hy
      obtain ⟨ms, r2⟩ := vy.rep S2 hy
      exact hr H2 a u d ms _ Q r2 q fun w z rz c => kk _ _ H2 ns2 ρ2 S2 (e1.trans e2) (d1.trans d2) (.v rz (fun _ _ h => nomatch h) (fun _ _ _ h => nomatch h) (fun _ h => nomatch h)) c
    · exact q.elim
  · exact q.elim
def gFind : List Nat → D → (D → Prop) → Prop := fun a d P => match d with
  | .str b => P (.int (findN a b))
  | _ => False
theorem tmr_find : TMR K (fun x xs H Q => ∃ a b, x = .str a ∧ xs = [.str b] ∧ Q (.int (Txt.find a b)) H) gFind := by
  intro H a u d ms C Q r g k
  cases d <;> first | exact g.elim | skip
  cases r with
  | str e =>
  rename_i x z
  have e := tx_of e
  subst e
  exact ⟨_, _, rfl, rfl, k _ _ (.int _) (by rw [find_tx]; exact g)⟩
theorem qfind {X : Cx} {o e : Expr} {to te : TE} {po pe : PX} {apos pos : Pos} (ho : QE X o to po) (he : QE X e te pe) (hs : starEach [e] X.env = [(false, eval e X.env)] := by rfl) (hbase : attributeBase o "find" X.env (eval o X.env) = eval o X.env := by rfl) (hline : (apos.endLine == pos.line) = true := by rfl) :
    QE X (.Call (.Attribute o "find" apos) [e] [] pos) (tM1 (fun x xs H Q => ∃ a b, x = .str a ∧ xs = [.str b] ∧ Q (.int (Txt.find a b)) H) to te) (pTM1 gFind po pe) :=
  ⟨pe_m1 F.slot_str_find F.type_str_find mt_find ho.pe he.pe hs hbase hline, sim_tm1 tmr_find ho.sim he.sim⟩
/-! join -/
theorem repL_strs : ∀ {vs : List V} {xs : List (List Nat)} {tl : List Addr}, RepL K H vs (xs.map D.str) tl → vs = (xs.map tx).map V.str
  | _, [], _, .nil => rfl
  | _, x :: xs, _, .cons r t q => by
    cases r with
    | str e =>
    rw [tx_of e, repL_strs t]
    rfl
def strsOf : List D → Option (List (List Nat))
  | [] => some []
  | .str x :: ds => match strsOf ds with
    | some xs => some (x :: xs)
    | none => none
  | _ :: _ => none
theorem strsOf_map (l : List (List Nat)) : strsOf (l.map D.str) = some l := by
  induction l with
  | nil => rfl
  | cons x l ih => simp [strsOf, ih]
theorem strsOf_eq : ∀ {ds : List D} {xs : List (List Nat)}, strsOf ds = some xs → ds = xs.map D.str
  | [], xs, h => by cases h; rfl
  | .str x :: ds, xs, h => by
    unfold strsOf at h
    split at h
    · rename_i ys e
      cases h
      rw [strsOf_eq e]; rfl
    · cases h
  | .non :: ds, xs, h => by simp [strsOf] at h
  | .bl _ :: ds, xs, h => by simp [strsOf] at h
  | .int _ :: ds, xs, h => by simp [strsOf] at h
  | .tup _ :: ds, xs, h => by simp [strsOf] at h
  | .lst _ :: ds, xs, h => by simp [strsOf] at h
  | .lsr _ :: ds, xs, h => by simp [strsOf] at h
  | .obj _ _ _ _ :: ds, xs, h => by simp [strsOf] at h
  | .dic _ _ :: ds, xs, h => by simp [strsOf] at h
  | .ty _ :: ds, xs, h => by simp [strsOf] at h
  | .cls _ :: ds, xs, h => by simp [strsOf] at h
  | .exn _ _ _ :: ds, xs, h => by simp [strsOf] at h
theorem join_tx (s : List Nat) (xs : List (List Nat)) : Txt.join (tx s) (xs.map tx) = tx (TL.joinL s xs) := by
  rw [TL.join_eq]
  apply tx_of
  have h := TL.tl_join (tx s) (xs.map tx)
  have e : (xs.map tx).map TL.tl = xs := by
    rw [List.map_map]
    have : TL.tl ∘ tx = id := by funext x; exact tx_cps
    rw [this, List.map_id]
  rw [e] at h
  have e2 : TL.tl (tx s) = s := tx_cps
  rw [e2] at h
  exact h
def gJoin : List Nat → D → (D → Prop) → Prop := fun a d P => match d with
  | .lst ds => match strsOf ds with
    | some xs => (xs.map (·.length)).sum + xs.length * a.length ≤ 16777216 ∧ P (.str (TL.joinL a xs))
    | none => False
  | .tup ds => match strsOf ds with
    | some xs => (xs.map (·.length)).sum + xs.length * a.length ≤ 16777216 ∧ P (.str (TL.joinL a xs))
    | none => False
  | _ => False
theorem tmr_join : TMR K (fun x xs H Q => ∃ a p, ∃ ys : List Str, x = .str a ∧ xs = [.ref p] ∧ (SqL K H p (ys.map V.str) ∨ SqT K H p (ys.map V.str)) ∧
      (ys.map (·.length)).sum + ys.length * a.length ≤ 16777216 ∧ Q (.str (Txt.join a ys)) H) gJoin := by
  have lens : ∀ xs : List (List Nat), ((xs.map tx).map (·.length)) = xs.map (·.length) := fun xs => by
    rw [List.map_map]
    exact List.map_congr_left fun x _ => tx_len
  intro H a u d ms C Q r g k
  unfold gJoin at g
  split at g
  · rename_i ds
    split at g
    · rename_i xs e
      rw [strsOf_eq e] at r
      cases r with
      | lst h1 r =>
      rw [repL_strs r] at h1
      exact ⟨_, _, xs.map tx, rfl, rfl, .inl (.of h1), by rw [lens, List.length_map, tx_len]; exact g.1, k _ _ (.str (by rw [join_tx]; exact tx_cps)) g.2⟩
    · exact g.elim
  · rename_i ds
    split at g
    · rename_i xs e
      rw [strsOf_eq e] at r
      cases r with
      | tup h1 r =>
      rw [repL_strs r] at h1
      exact ⟨_, _, xs.map tx, rfl, rfl, .inr h1, by rw [lens, List.length_map, tx_len]; exact g.1, k _ _ (.str (by rw [join_tx]; exact tx_cps)) g.2⟩
    · exact g.elim
  · exact g.elim
theorem qjoin {X : Cx} {o e : Expr} {to te : TE} {po pe : PX} {apos pos : Pos} (ho : QE X o to po) (he : QE X e te pe) (hs : starEach [e] X.env = [(false, eval e X.env)] := by rfl) (hbase : attributeBase o "join" X.env (eval o X.env) = eval o X.env := by rfl) (hline : (apos.endLine == pos.line) = true := by rfl) :
    QE X (.Call (.Attribute o "join" apos) [e] [] pos) (tM1 (fun x xs H Q => ∃ a p, ∃ ys : List Str, x = .str a ∧ xs = [.ref p] ∧ (SqL X.K H p (ys.map V.str) ∨ SqT X.K H p (ys.map V.str)) ∧
      (ys.map (·.length)).sum + ys.length * a.length ≤ 16777216 ∧ Q (.str (Txt.join a ys)) H) to te) (pTM1 gJoin po pe) :=
  ⟨pe_join ho.pe he.pe hs hbase hline, sim_tm1 tmr_join ho.sim he.sim⟩
/-! strip, split -/
def stripN (x cs : List Nat) : List Nat :=
  let lo := (x.takeWhile fun c => decide (c ∈ cs)).length
  (x.drop lo).take (x.length - ((x.drop lo).reverse.takeWhile fun c => decide (c ∈ cs)).length - lo)
theorem strip_tx {x cs : List Nat} : Txt.stripChars (tx x) (tx cs) = tx (stripN x cs) := by
  have ec : (tx cs).cps.contains = fun c => decide (c ∈ cs) := by
    funext c
    unfold tx
    simp
  have et : (tx x).cps.toList = x := tx_cps
  have el : (tx x).length = x.length := tx_len
  have main : stripped (fun c => decide (c ∈ cs)) true true (tx x) = tx (stripN x cs) := by
    unfold stripped
    have lo : stripLo (fun c => decide (c ∈ cs)) true (tx x) = (x.takeWhile fun c => decide (c ∈ cs)).length := by
      unfold stripLo; rw [if_pos rfl, et]
    have hi : stripHi (fun c => decide (c ∈ cs)) true (tx x) ((x.takeWhile fun c => decide (c ∈ cs)).length) = x.length - ((x.drop (x.takeWhile fun c => decide (c ∈ cs)).length).reverse.takeWhile fun c => decide (c ∈ cs)).length := by
      unfold stripHi; rw [if_pos rfl, et, el]
    rw [lo, hi]
    unfold stripN Builtin.Str.strSub tx
    simp [List.extract_eq_drop_take]
  unfold Txt.stripChars Txt.stripBy
  rw [ec]
  split
  · rename_i h
    unfold stripSame at h
    rw [Bool.and_eq_true, beq_iff_eq, beq_iff_eq] at h
    rw [← main]
    unfold stripped
    rw [h.2, h.1, el]
    unfold Builtin.Str.strSub tx
    simp
  · exact main
def gStrip : List Nat → D → (D → Prop) → Prop := fun a d P => match d with
  | .str b => a.length ≤ sizeLine ∧ P (.str (stripN a b))
  | _ => False
theorem tmr_strip : TMR K (fun x xs H Q => ∃ a b, x = .str a ∧ xs = [.str b] ∧ a.length ≤ sizeLine ∧ Q (.str (Txt.stripChars a b)) H) gStrip := by
  intro H a u d ms C Q r g k
  cases d <;> first | exact g.elim | skip
  cases r with
  | str e =>
  rename_i x z
  have e := tx_of e
  subst e
  exact ⟨_, _, rfl, rfl, by rw [tx_len]; exact g.1, k _ _ (.str (by rw [strip_tx]; exact tx_cps)) g.2⟩
theorem qstrip {X : Cx} {o e : Expr} {to te : TE} {po pe : PX} {apos pos : Pos} (ho : QE X o to po) (he : QE X e te pe) (hs : starEach [e] X.env = [(false, eval e X.env)] := by rfl) (hbase : attributeBase o "strip" X.env (eval o X.env) = eval o X.env := by rfl) (hline : (apos.endLine == pos.line) = true := by rfl) :
    QE X (.Call (.Attribute o "strip" apos) [e] [] pos) (tM1 (fun x xs H Q => ∃ a b, x = .str a ∧ xs = [.str b] ∧ a.length ≤ sizeLine ∧ Q (.str (Txt.stripChars a b)) H) to te) (pTM1 gStrip po pe) :=
  ⟨pe_m1 F.slot_str_strip F.type_str_strip mt_stripChars ho.pe he.pe hs hbase hline, sim_tm1 tmr_strip ho.sim he.sim⟩
def splitN (x s : List Nat) : List (List Nat) := (Txt.split (tx x) (tx s)).map fun z => z.cps.toList
theorem split_tx {x s : List Nat} : (Txt.split (tx x) (tx s)) = (splitN x s).map tx := by
  unfold splitN
  rw [List.map_map]
  have : (tx ∘ fun z : Str => z.cps.toList) = id := by
    funext z
    exact (tx_of rfl).symm
  rw [this, List.map_id]
theorem rep_strs (H : Hp) : ∀ xs : List (List Nat), RepL K H ((xs.map tx).map V.str) (xs.map D.str) []
  | [] => .nil
  | x :: xs => .cons (.str tx_cps) (rep_strs H xs) rfl
def pSplit (po pe : PX) : PX := fun ρ P => po ρ fun x ρ1 => match res ρ1 x with
  | some (.str a) => pe ρ1 fun y ρ2 => match res ρ2 y with
    | some (.str b) => 0 < b.length ∧ a.length + 2 ≤ sizeLine ∧ P (.f true ((splitN a b).map D.str)) ρ2
    | _ => False
  | _ => False
theorem sim_split {to te : TE} {po pe : PX} (ho : Sim K to po) (he : Sim K te pe) : Sim K (tM1 (fun x xs H Q => ∃ a b, x = .str a ∧ xs = [.str b] ∧ (b.length == 0) = false ∧ a.length + 2 ≤ sizeLine ∧ rNewStrs (Txt.split a b) H Q) to te) (pSplit po pe) := fun M Z H0 F ns H σ ρ P Q S hp kk => by
  refine ho M Z H0 F ns H σ ρ _ _ S hp fun x v H1 ns1 ρ1 S1 e1 d1 vx q => ?_
  split at q
  · rename_i a hx
    obtain ⟨z, rfl, ez⟩ := vx.strV S1 hx
    have ez := tx_of ez
    subst ez
    refine ⟨⟨_, rfl⟩, he M Z H0 F ns1 H1 σ ρ1 _ _ S1 q fun y u H2 ns2 ρ2 S2 e2 d2 vy q => ?_⟩
    split at q
    · rename_i b hy
      obtain ⟨w, rfl, ew⟩ := vy.strV S2 hy
      have ew := tx_of ew
      subst ew
      refine ⟨_, _, rfl, rfl, by rw [tx_len]; simp; intro z; rw [z] at q; exact absurd q.1 (by simp), by rw [tx_len]; exact q.2.1, fun p hp => ?_⟩
      rw [split_tx]
      have I : Items K Z H0 H2 ns2 ρ2 true (((splitN a b).map tx).map V.str) ((splitN a b).map D.str) [] := ⟨rep_strs H2 _, (fun _ _ h => nomatch h), (fun _ _ _ h => nomatch h), (fun _ h => nomatch h)⟩
      exact kk _ _ _ ns2 ρ2 (S2.grow (same_upd hp)) ((e1.trans e2).trans (.same (same_upd hp))) (d1.trans d2) (VOk.newL S2 hp I) q.2.2
    · exact q.elim
  · exact q.elim
theorem qsplit {X : Cx} {o e : Expr} {to te : TE} {po pe : PX} {apos pos : Pos} (ho : QE X o to po) (he : QE X e te pe) (hs : starEach [e] X.env = [(false, eval e X.env)] := by rfl) (hbase : attributeBase o "split" X.env (eval o X.env) = eval o X.env := by rfl) (hline : (apos.endLine == pos.line) = true := by rfl) :
    QE X (.Call (.Attribute o "split" apos) [e] [] pos) (tM1 (fun x xs H Q => ∃ a b, x = .str a ∧ xs = [.str b] ∧ (b.length == 0) = false ∧ a.length + 2 ≤ sizeLine ∧ rNewStrs (Txt.split a b) H Q) to te) (pSplit po pe) :=
  ⟨pe_split ho.pe he.pe hs hbase hline, sim_split ho.sim he.sim⟩
/-- a joined text, split -/
theorem split_join {s : Nat} {S : List Nat} (hk : ∀ c ∈ s :: S, c < 256) {parts : List (List Nat)} (hne : parts ≠ []) (hp : ∀ p ∈ parts, s ∉ p) : splitN (TL.joinL (s :: S) parts) (s :: S) = parts := by
  have h := TL.split_join (y := tx (s :: S)) (s := s) (S := S) tx_cps (by unfold tx; simpa [Array.all_toList] using hk) (parts := parts.map tx) (by simpa using hne) (fun p hp' => by
    obtain ⟨q, hq, rfl⟩ := List.mem_map.mp hp'
    have : TL.tl (tx q) = q := tx_cps
    rw [this]
    exact hp q hq)
  rw [join_tx] at h
  unfold splitN
  rw [h, List.map_map]
  have : ((fun z : Str => z.cps.toList) ∘ tx) = id := by funext x; exact tx_cps
  rw [this, List.map_id]
/-! sum of a list -/
def intsOf : List D → Option (List Int)
  | [] => some []
  | .int x :: ds => match intsOf ds with
    | some xs => some (x :: xs)
    | none => none
  | _ :: _ => none
theorem intsOf_map {α : Type} (f : α → Int) (l : List α) : intsOf (l.map fun a => D.int (f a)) = some (l.map f) := by
  induction l with
  | nil => rfl
  | cons x l ih => simp [intsOf, ih]
theorem intsOf_eq : ∀ {ds : List D} {xs : List Int}, intsOf ds = some xs → ds = xs.map D.int
  | [], xs, h => by cases h; rfl
  | .int x :: ds, xs, h => by
    unfold intsOf at h
    split at h
    · rename_i ys e
      cases h
      rw [intsOf_eq e]; rfl
    · cases h
  | .non :: ds, xs, h => by simp [intsOf] at h
  | .bl _ :: ds, xs, h => by simp [intsOf] at h
  | .str _ :: ds, xs, h => by simp [intsOf] at h
  | .tup _ :: ds, xs, h => by simp [intsOf] at h
  | .lst _ :: ds, xs, h => by simp [intsOf] at h
  | .lsr _ :: ds, xs, h => by simp [intsOf] at h
  | .obj _ _ _ _ :: ds, xs, h => by simp [intsOf] at h
  | .dic _ _ :: ds, xs, h => by simp [intsOf] at h
  | .ty _ :: ds, xs, h => by simp [intsOf] at h
  | .cls _ :: ds, xs, h => by simp [intsOf] at h
  | .exn _ _ _ :: ds, xs, h => by simp [intsOf] at h
theorem repL_intsV : ∀ {vs : List V} {xs : List Int} {tl : List Addr}, RepL K H vs (xs.map D.int) tl → vs = xs.map V.int
  | _, [], _, .nil => rfl
  | _, x :: xs, _, .cons r t q => by
    cases r
    rw [repL_intsV t]
    rfl
def kSum : KC := fun xs ρ P => match xs with
  | [x] => match res ρ x with
    | some (.lst ds) => match intsOf ds with
      | some ns => P (.v true (.int ns.sum)) ρ
      | none => False
    | some (.lsr ds) => match intsOf ds with
      | some ns => P (.v true (.int ns.sum)) ρ
      | none => False
    | _ => False
  | _ => False
theorem sim_sum : CallSim K (rSum K) kSum := by
  intro M Z H0 F ns H σ ρ P Q xs vs S vxs q k
  unfold kSum at q
  split at q
  · rename_i x
    cases vxs with
    | cons vx t =>
    cases t
    split at q
    · rename_i ds hx
      split at q
      · rename_i ls e
        rw [intsOf_eq e] at hx
        obtain ⟨p1, vs, tl, rfl, h1, I1⟩ := vx.seqL S (.inl hx)
        have := I1.rep
        rw [repL_intsV this] at h1
        exact ⟨p1, ls, rfl, h1, k _ _ H ns ρ S (.refl H) (.refl ρ) (.int _) q⟩
      · exact q.elim
    · rename_i ds hx
      split at q
      · rename_i ls e
        rw [intsOf_eq e] at hx
        obtain ⟨p1, vs, tl, rfl, h1, I1⟩ := vx.seqL S (.inr hx)
        have := I1.rep
        rw [repL_intsV this] at h1
        exact ⟨p1, ls, rfl, h1, k _ _ H ns ρ S (.refl H) (.refl ρ) (.int _) q⟩
      · exact q.elim
    · exact q.elim
  · exact q.elim
/-! ==, of empty dicts too -/
def rEqE (K : PySem.W.Frag) : R2 := fun x y H Q => rEqD K x y H Q ∨ ∃ a b kvs, x = .ref a ∧ y = .ref b ∧ H a = some (.dK kvs) ∧ H b = some (.dK kvs) ∧ (kvs.map (·.1)).Nodup ∧ (∀ p ∈ kvs, flatB p.2 = true) ∧ Q (.bl true) H
def gEqE : D → D → (D → Prop) → Prop := fun d e P => gEq d e P ∨ (d = .dic [] [] ∧ e = .dic [] [] ∧ P (.bl true))
theorem opPure_eqE : OpPure K (rEqE K) gEqE := fun H v u d e ms ks P Q r1 r2 g k => by
  rcases g with g | ⟨rfl, rfl, g⟩
  · exact .inl (opPure_eq H v u d e ms ks P Q r1 r2 g k)
  · cases r1 with
    | dic h1 l1 r1 =>
    cases r2 with
    | dic h2 l2 r2 =>
    exact .inr ⟨_, _, [], rfl, rfl, by simpa using h1, by simpa using h2, by simp, by simp, k _ _ (.bl _) g⟩
theorem qeqE {X : Cx} {a b : Expr} {ta tb : TE} {pa pb : PX} {pos : Pos} (hu : X.A.units + 64 < cLine) (ha : QE X a ta pa) (hb : QE X b tb pb) : QE X (.Compare a [.Eq] [b] pos) (tOp (rEqE X.K) ta tb) (pOp (kP gEqE) pa pb) :=
  ⟨pe_cmpR (OpR_or (op_eqD hu) (op_eq_dict (by omega))) ha.pe hb.pe (nomark _), sim_op (opSim_pure opPure_eqE) ha.sim hb.sim⟩
/-! what is never come to -/
def sNever : PS' := fun _ _ => False
theorem qnever {X : Cx} {st : Stmt} : QS X st tNever sNever := ⟨ps_never, fun M Z H0 F ns H σ ρ E D S h => h.elim⟩
end
end Qq

namespace Qq
open PySem PySem.Spec PyProof.Rows L2

/-! ### calls by what was got -/
def GotQ (P : Program) (w : World) (K : PySem.W.Frag) (mg : Str → Option Value) (base : Heap) (k : Nat) (x : Str) (ps : List Str) (n : Nat) (mu : Option Nat) (S : Spec') : Prop :=
  ∃ (f : Addr) (fd : FuncData), FnOk P w K mg base CX0 k f fd ps (spQ K n mu S) ∧ mg x = some (.ref f) ∧ PySem.W.keepIn K (.ref f) = true ∧ Binds K fd ps []
section
variable {X : Cx} {e : Expr} {es : List Expr} {tr : TA} {pr : PAs} {p1 pos : Pos}
theorem qcallG {x : Str} {k n : Nat} {ps : List Str} {mu : Option Nat} {S : Spec'} (G : GotQ X.prog X.w X.K X.mg X.base k x ps n mu S) (hr : Room k X.A) (ha : QA X (e :: es) tr pr)
    (hg : Gl X x := by rfl) (hdb : (x == ("__debug__" : Str)) = false := by decide) (he : starEach (e :: es) X.env = (false, eval e X.env) :: starEach es X.env := by rfl) (hpl : (backTo pos (starEach es X.env)).any (·.1) = false := by rfl) : QE X (.Call (.Name x p1) (e :: es) [] pos) (tCall (spQ X.K n mu S) [] E0 tr) (pCall n mu S pr) := by
  obtain ⟨f, fd, h1, h2, h3, h4⟩ := G
  exact qcall h1 hr h2 h3 h4 ha hg hdb he hpl
theorem qcallG0 {x : Str} {k n : Nat} {ps : List Str} {mu : Option Nat} {S : Spec'} (G : GotQ X.prog X.w X.K X.mg X.base k x ps n mu S) (hr : Room k X.A)
    (hg : Gl X x := by rfl) (hdb : (x == ("__debug__" : Str)) = false := by decide) : QE X (.Call (.Name x p1) [] [] pos) (tCall (spQ X.K n mu S) [] E0 tNil) (pCall n mu S pNil) := by
  obtain ⟨f, fd, h1, h2, h3, h4⟩ := G
  exact qcall0 h1 hr h2 h3 h4 hg hdb
end
theorem intC {m : Option Value} {i : Int} (h : ∃ t, m = some (.int i t)) : ∃ u, m = some u ∧ RelV (.int i) u := let ⟨t, e⟩ := h; ⟨_, e, t, rfl⟩
theorem strC {m : Option Value} {z : Str} (h : ∃ t, m = some (.str z t)) : ∃ u, m = some u ∧ RelV (.str z) u := let ⟨t, e⟩ := h; ⟨_, e, t, rfl⟩
theorem qgloI {X : Cx} {pos : Pos} {x : Str} {i : Int} (h : ∃ u, X.mg x = some u ∧ RelV (.int i) u) (hg : Gl X x := by rfl) (hd : (x == ("__debug__" : Str)) = false := by decide) : QE X (.Name x pos) (tC (.int i)) (pC (.int i)) := by
  obtain ⟨u, h1, h2⟩ := h
  exact qglo (.int i) h1 h2 (fun _ => .int i) hg hd
theorem qgloS {X : Cx} {pos : Pos} {x z : Str} (h : ∃ u, X.mg x = some u ∧ RelV (.str z) u) (l : List Nat) (hl : z.cps.toList = l) (hg : Gl X x := by rfl) (hd : (x == ("__debug__" : Str)) = false := by decide) : QE X (.Name x pos) (tC (.str z)) (pC (.str l)) := by
  obtain ⟨u, h1, h2⟩ := h
  exact qglo (.str l) h1 h2 (fun _ => .str hl) hg hd
theorem qder {X : Cx} {bd : List Stmt} {t : TS} {p : PS'} (h : QSs X bd t p) : ∃ t, PSs X bd t ∧ SimS X.K t p := ⟨t, h.pss, h.sim⟩
theorem _root_.L2.Room.units65 {k : Nat} {A : Around} (r : Room k A) : A.units + 65 < cLine := by have := r.un; omega
/-- the law's def: its cells are read only, or a list of its own -/
theorem law_sp {K : PySem.W.Frag} {S : Spec'} {H : Hp} {a : Addr} {ns : List Int} {Q : VK} {E : XK} (hS : SqL K H a (ns.map V.int))
    (h1 : S [.lsr (ns.map D.int)] fun x _ => x = .v true (.bl true)) (h2 : S [.lst (ns.map D.int)] fun x _ => x = .v true (.bl true)) (hQ : ∀ H', Q (.bl true) H') : spQ K 1 none S [.ref a] H Q E := by
  have ri : ∀ l : List Int, RepL K H (l.map V.int) (l.map D.int) [] := fun l => by
    induction l with
    | nil => exact .nil
    | cons i l ih => exact .cons (.int i) ih rfl
  have fin : ∀ (v : V) (x : Val) (cs : List D) (H' : Hp), RetOk K H H' v x → x = .v true (.bl true) → Q v H' := fun v x cs H' r e => by
    subst e
    cases r with
    | v r f =>
      cases r with
      | bl b => exact hQ H'
  have own : (∃ xs, H a = some (.lst xs) ∧ xs = ns.map V.int) ∨ ∀ H' : Hp, (∀ o u, H a = some (.frz o u) → H' a = some (.frz o u)) → SqL K H' a (ns.map V.int) := by
    rcases hS with (h | ⟨u, h⟩) | h
    · exact .inl ⟨_, h, rfl⟩
    · exact .inr fun H' k => .inl (.inr ⟨u, k _ _ h⟩)
    · exact .inr fun H' _ => .inr h
  rcases own with ⟨xs, h, rfl⟩ | h
  · refine ⟨rfl, [.lst (ns.map D.int)], fun _ => [a], _, ⟨rfl, fun i d hd => ?_, fun m z => nomatch z⟩, h2, fun v x cs H' r _ _ e => fin v x cs H' r e⟩
    cases i with
    | zero => simp at hd; subst hd; exact ⟨_, rfl, .lst h (ri ns)⟩
    | succ i => simp at hd
  · refine ⟨rfl, [.lsr (ns.map D.int)], fun _ => [], _, ⟨rfl, fun i d hd => ?_, fun m z => nomatch z⟩, h1, fun v x cs H' r _ _ e => fin v x cs H' r e⟩
    cases i with
    | zero => simp at hd; subst hd; exact ⟨_, rfl, .lstR h (ri ns)⟩
    | succ i => simp at hd

/-! ### the readings, worked out -/
section
variable {ρ : Sto} {P : Val → Sto → Prop} {E : PEn} {p q : PS'} {pa pb : PX} {pc pd : PT'} {ps pr : PAs} {C : Sto → Prop}
theorem z_seq : sSeq p q E ρ = p { E with nx := q E } ρ := rfl
theorem z_next : sNext E ρ = E.nx ρ := rfl
theorem z_break : sBreak E ρ = E.bk ρ := rfl
theorem z_cont : sCont E ρ = E.ct ρ := rfl
theorem z_ret : sRet pa E ρ = pa ρ E.rt := rfl
theorem z_retN : sRetN E ρ = E.rt (.v true .non) ρ := rfl
theorem z_drop : sDrop pa E ρ = pa ρ fun _ ρ1 => E.nx ρ1 := rfl
theorem z_asg {g : PG'} : sAsg pa g E ρ = pa ρ fun x ρ1 => g x ρ1 E.nx := rfl
theorem z_if : sIf pc p q E ρ = pc ρ fun b ρ1 => if b = true then p E ρ1 else q E ρ1 := rfl
theorem z_for {i : PI'} {g : PG'} : sFor i g p E ρ = i ρ fun items ρ1 => pLoop g p E items ρ1 := rfl
theorem z_var {i : Nat} : pVar i ρ P = (match ρ[i]? with
  | some (some (.sh fr d)) => P (.v fr d) ρ
  | some (some (.ow _ _ _)) => P (.s i) ρ
  | some (some (.tr _ _)) => P (.s i) ρ
  | _ => False) := rfl
theorem z_c {d : D} : pC d ρ P = P (.v true d) ρ := rfl
theorem z_op {k : KO} : pOp k pa pb ρ P = pa ρ fun x ρ1 => pb ρ1 fun y ρ2 => k x.dn y ρ2 P := rfl
theorem z_kP {g : D → D → (D → Prop) → Prop} {x y : Val} : kP g x y ρ P = (match res ρ x, res ρ y with
  | some d, some e => g d e fun z => P (.v true z) ρ
  | _, _ => False) := rfl
@[simp] theorem z_res_v {fr : Bool} {d : D} : res ρ (.v fr d) = some d := rfl
@[simp] theorem z_res_f {fr : Bool} {d : List D} : res ρ (.f fr d) = some (.lst d) := rfl
theorem z_res_s {i : Nat} : res ρ (.s i) = (match ρ[i]? with
  | some (some c) => c.rd
  | _ => none) := rfl
@[simp] theorem z_resT_v {fr : Bool} {d : D} : resT ρ (.v fr d) = some d := rfl
@[simp] theorem z_resT_f {fr : Bool} {d : List D} : resT ρ (.f fr d) = some (.lst d) := rfl
@[simp] theorem z_rd1 {fr : Bool} {d : D} : (Cel.sh fr d).rd = some d := rfl
@[simp] theorem z_rd2 {k : Option Nat} {fr : Bool} {d : List D} : (Cel.ow k fr d).rd = some (.lst d) := rfl
@[simp] theorem z_dat3 {p : Bool} {d : D} : (Cel.tr p d).dat = d := rfl
@[simp] theorem z_frs3 {p : Bool} {d : D} : (Cel.tr p d).frs = !p := rfl
@[simp] theorem z_resF_v {fr : Bool} {d : D} : resF ρ (.v fr d) = fr := rfl
@[simp] theorem z_resF_f {fr : Bool} {d : List D} : resF ρ (.f fr d) = fr := rfl
theorem z_resF_s {i : Nat} : resF ρ (.s i) = (match ρ[i]? with
  | some (some c) => c.frs
  | _ => false) := rfl
@[simp] theorem z_dat1 {fr : Bool} {d : D} : (Cel.sh fr d).dat = d := rfl
@[simp] theorem z_dat2 {k : Option Nat} {fr : Bool} {d : List D} : (Cel.ow k fr d).dat = .lst d := rfl
@[simp] theorem z_frs1 {fr : Bool} {d : D} : (Cel.sh fr d).frs = fr := rfl
@[simp] theorem z_frs2 {k : Option Nat} {fr : Bool} {d : List D} : (Cel.ow k fr d).frs = fr := rfl
@[simp] theorem z_dn_v {fr : Bool} {d : D} : (Val.v fr d).dn = .v fr d := rfl
@[simp] theorem z_dn_s {i : Nat} : (Val.s i).dn = .s i := rfl
@[simp] theorem z_dn_f {fr : Bool} {d : List D} : (Val.f fr d).dn = .v fr (.lst d) := rfl
@[simp] theorem z_gI {Cc : Int → Int → Prop} {f : Int → Int → D} {i j : Int} {R : D → Prop} : gI Cc f (.int i) (.int j) R = (Cc i j ∧ R (f i j)) := rfl
@[simp] theorem z_gI0 {f : Int → Int → D} {i j : Int} {R : D → Prop} : gI0 f (.int i) (.int j) R = R (f i j) := rfl
@[simp] theorem z_gEq {d e : D} {R : D → Prop} : gEq d e R = (Plain d ∧ Plain e ∧ R (.bl (deq d e))) := rfl
@[simp] theorem z_gNe {d e : D} {R : D → Prop} : gNe d e R = (Plain d ∧ Plain e ∧ R (.bl (!deq d e))) := rfl
@[simp] theorem z_ordI {f : Int → Int → Bool} {g : List Nat → List Nat → Bool} {i j : Int} {R : D → Prop} : gOrd f g (.int i) (.int j) R = R (.bl (f i j)) := rfl
@[simp] theorem z_ordS {f : Int → Int → Bool} {g : List Nat → List Nat → Bool} {i j : List Nat} {R : D → Prop} : gOrd f g (.str i) (.str j) R = R (.bl (g i j)) := rfl
theorem z_tst : pTst pa ρ = fun R => pa ρ fun x ρ1 => match x with
  | .v _ (.bl b) => R b ρ1
  | _ => False := rfl
theorem z_tru {R : Bool → Sto → Prop} : pTru pa ρ R = pa ρ fun x ρ1 => match res ρ1 x with
  | some d => match truth d with
    | some b => szOk d ∧ R b ρ1
    | none => False
  | none => False := rfl
theorem z_notT {R : Bool → Sto → Prop} : pNotT pc ρ R = pc ρ fun b ρ1 => R (!b) ρ1 := rfl
theorem z_andT {R : Bool → Sto → Prop} : pAndT pc pd ρ R = pc ρ fun b ρ1 => if b = true then pd ρ1 R else R false ρ1 := rfl
theorem z_orT {R : Bool → Sto → Prop} : pOrT pc pd ρ R = pc ρ fun b ρ1 => if b = true then R true ρ1 else pd ρ1 R := rfl
theorem z_andV : pAndV pa pb ρ P = pa ρ fun x ρ1 => match x with
  | .v _ (.bl b) => if b = true then pb ρ1 P else P (.v true (.bl false)) ρ1
  | _ => False := rfl
theorem z_orV : pOrV pa pb ρ P = pa ρ fun x ρ1 => match x with
  | .v _ (.bl b) => if b = true then P (.v true (.bl true)) ρ1 else pb ρ1 P
  | _ => False := rfl
theorem z_notV : pNotV pa ρ P = pa ρ fun x ρ1 => match x with
  | .v _ (.bl b) => P (.v true (.bl (!b))) ρ1
  | _ => False := rfl
theorem z_pif : pIf pc pa pb ρ P = pc ρ fun b ρ1 => if b = true then pa ρ1 P else pb ρ1 P := rfl
theorem z_neg : pNeg pa ρ P = pa ρ fun x ρ1 => match res ρ1 x with
  | some (.int i) => P (.v true (.int (-i))) ρ1
  | _ => False := rfl
theorem z_cb {k : KC} : pCB k ps ρ P = ps ρ fun xs ρ1 => k xs ρ1 P := rfl
theorem z_nil {R : List Val → Sto → Prop} : pNil ρ R = R [] ρ := rfl
theorem z_one {R : List Val → Sto → Prop} : pOne pa ρ R = pa ρ fun x ρ1 => R [x] ρ1 := rfl
theorem z_cons {R : List Val → Sto → Prop} : pCons pa ps ρ R = pa ρ fun x ρ1 => ps ρ1 fun xs ρ2 => R (x.dn :: xs) ρ2 := rfl
theorem z_kCP {g : List D → (D → Prop) → Prop} {xs : List Val} : kCP g xs ρ P = (match resAll ρ xs with
  | some ds => g ds fun z => P (.v true z) ρ
  | none => False) := rfl
@[simp] theorem z_ra_nil : resAll ρ [] = some [] := rfl
theorem z_ra_cons {x : Val} {xs : List Val} : resAll ρ (x :: xs) = (match resT ρ x, resAll ρ xs with
    | some d, some ds => some (d :: ds)
    | _, _ => none) := rfl
@[simp] theorem z_put_v {fr : Bool} {d : D} : put ρ (.v fr d) = ρ := rfl
@[simp] theorem z_put_f {fr : Bool} {d : List D} : put ρ (.f fr d) = ρ := rfl
theorem z_put_s {i : Nat} : put ρ (.s i) = (match ρ[i]? with
  | some (some (.ow _ fr ds)) => ρ.set i (some (.sh fr (.lst ds)))
  | some (some (.tr p d)) => ρ.set i (some (.sh (!p) d))
  | _ => ρ) := rfl
@[simp] theorem z_pa_nil : putAll ρ [] = ρ := rfl
@[simp] theorem z_pa_cons {x : Val} {xs : List Val} : putAll ρ (x :: xs) = putAll (put ρ x) xs := rfl
@[simp] theorem z_fa_nil : frAll ρ [] = true := rfl
@[simp] theorem z_fa_cons {x : Val} {xs : List Val} : frAll ρ (x :: xs) = (resF ρ x && frAll ρ xs) := rfl
theorem z_lst : pLst ps ρ P = ps ρ fun xs ρ1 => match resAll (putAll ρ1 xs) xs with
  | some ds => ds.length ≤ sizeLine ∧ P (.f (frAll (putAll ρ1 xs) xs) ds) (putAll ρ1 xs)
  | none => False := rfl
theorem z_tup : pTup ps ρ P = ps ρ fun xs ρ1 => match resAll (putAll ρ1 xs) xs with
  | some ds => ds.length ≤ sizeLine ∧ P (.v (frAll (putAll ρ1 xs) xs) (.tup ds)) (putAll ρ1 xs)
  | none => False := rfl
theorem z_noPart {R : Option Int → Sto → Prop} : pNoPart ρ R = R none ρ := rfl
theorem z_part {R : Option Int → Sto → Prop} : pPart pa ρ R = pa ρ fun x ρ1 => match res ρ1 x with
  | some (.int i) => R (some i) ρ1
  | _ => False := rfl
theorem z_sl {pl ph : PO'} : pSl pa pl ph ρ P = pa ρ fun x ρ1 => pl ρ1 fun l ρ2 => ph ρ2 fun h ρ3 => kSl x.dn l h ρ3 P := rfl
theorem z_kSl {x : Val} {lo hi : Option Int} : kSl x lo hi ρ P = (match res ρ x with
  | some (.lst a) => P (.f (resF ρ x) (cut a lo hi)) ρ
  | some (.lsr a) => P (.f (resF ρ x) (cut a lo hi)) ρ
  | some (.tup a) => P (.v (resF ρ x) (.tup (cut a lo hi))) ρ
  | some (.str a) => a.length ≤ sizeLine ∧ P (.v true (.str (cut a lo hi))) ρ
  | _ => False) := rfl
theorem z_kLen {x : Val} : kLen [x] ρ P = (match res ρ x with
    | some (.str a) => a.length ≤ sizeLine ∧ P (.v true (.int (a.length : Int))) ρ
    | some (.lst a) => P (.v true (.int (a.length : Int))) ρ
    | some (.lsr a) => P (.v true (.int (a.length : Int))) ρ
    | some (.tup a) => P (.v true (.int (a.length : Int))) ρ
    | _ => False) := rfl
theorem z_kList {x : Val} : kList [x] ρ P = (match res ρ x with
    | some (.lst a) => P (.f (resF ρ x) a) ρ
    | some (.lsr a) => P (.f (resF ρ x) a) ρ
    | some (.tup a) => P (.f (resF ρ x) a) ρ
    | _ => False) := rfl
theorem z_kTuple {x : Val} : kTuple [x] ρ P = (match res ρ x with
    | some (.lst a) => P (.v (resF ρ x) (.tup a)) ρ
    | some (.lsr a) => P (.v (resF ρ x) (.tup a)) ρ
    | some (.tup a) => P (.v (resF ρ x) (.tup a)) ρ
    | _ => False) := rfl
theorem z_gN {x : Val} {i : Nat} : gN i x ρ C = (i < ρ.length ∧ C (sto ρ i x)) := rfl
@[simp] theorem z_sto_v {i : Nat} {fr : Bool} {d : D} : sto ρ i (.v fr d) = ρ.set i (some (.sh fr d)) := rfl
@[simp] theorem z_sto_f {i : Nat} {fr : Bool} {d : List D} : sto ρ i (.f fr d) = ρ.set i (some (.ow none fr d)) := rfl
@[simp] theorem z_sto_s {i j : Nat} : sto ρ i (.s j) = (match (put ρ (.s j))[j]? with
    | some (some c) => (put ρ (.s j)).set i (some (.sh c.frs c.dat))
    | _ => ρ) := rfl
theorem z_gT {n : Nat} {g : PGs'} {fr : Bool} {ds : List D} : gT n g (.v fr (.tup ds)) ρ C = (ds.length = n ∧ g (ds.map (.v fr)) ρ C) := by first | rfl | (unfold gT; simp)
theorem z_gsNil : gsNil [] ρ C = C ρ := rfl
theorem z_gsCons {g : PG'} {r : PGs'} {x : Val} {xs : List Val} : gsCons g r (x :: xs) ρ C = g x ρ fun ρ1 => r xs ρ1 C := rfl
theorem z_aug {i : Nat} {k : KO} : sAug i pa k E ρ = (match ρ[i]? with
  | some (some (.sh fr d)) => pa ρ fun y ρ1 => ρ1[i]? = some (some (.sh fr d)) ∧ k (.v fr d) y ρ1 fun z ρ2 => i < ρ2.length ∧ E.nx (sto ρ2 i z)
  | _ => False) := by unfold sAug; rfl
theorem z_append {i : Nat} : pAppend i pa ρ P = (match ρ[i]? with
  | some (some (.ow _ _ _)) => pa ρ fun y ρ1 => match (put ρ1 y)[i]?, res (put ρ1 y) y with
    | some (some (.ow k fr ds)), some d => ds.length < sizeLine ∧ P (.v true .non) ((put ρ1 y).set i (some (.ow k (fr && resF (put ρ1 y) y) (ds ++ [d]))))
    | _, _ => False
  | _ => False) := rfl
theorem z_pop {i : Nat} : pPop i ρ P = (match ρ[i]? with
  | some (some (.ow k fr ds)) => ∃ d, ds[ds.length - 1]? = some d ∧ P (.v fr d) (ρ.set i (some (.ow k fr ds.dropLast)))
  | _ => False) := rfl
theorem z_ixS {fr : Bool} {a : List Nat} {i : Int} {y : Val} (h : res ρ y = some (.int i)) : kIx (.v fr (.str a)) y ρ P = (a.length ≤ sizeLine ∧ ∃ c, atI a i = some c ∧ P (.v true (.str [c])) ρ) := by unfold kIx; simp only [z_res_v, h]
theorem z_ixT {fr : Bool} {a : List D} {i : Int} {y : Val} (h : res ρ y = some (.int i)) : kIx (.v fr (.tup a)) y ρ P = (∃ d, atI a i = some d ∧ P (.v fr d) ρ) := by unfold kIx; simp only [z_res_v, h, z_resF_v]
theorem z_ixL {fr : Bool} {a : List D} {i : Int} {y : Val} (h : res ρ y = some (.int i)) : kIx (.v fr (.lst a)) y ρ P = (∃ d, atI a i = some d ∧ P (.v fr d) ρ) := by unfold kIx; simp only [z_res_v, h, z_resF_v]
theorem z_ixR {fr : Bool} {a : List D} {i : Int} {y : Val} (h : res ρ y = some (.int i)) : kIx (.v fr (.lsr a)) y ρ P = (∃ d, atI a i = some d ∧ P (.v fr d) ρ) := by unfold kIx; simp only [z_res_v, h, z_resF_v]
theorem z_ixO {k : Option Nat} {fr : Bool} {a : List D} {i : Int} {j : Nat} {y : Val} (hj : ρ[j]? = some (some (.ow k fr a))) (h : res ρ y = some (.int i)) : kIx (.s j) y ρ P = (∃ d, atI a i = some d ∧ P (.v fr d) ρ) := by unfold kIx; simp only [z_res_s, hj, h, z_rd2, z_resF_s, z_frs2]
theorem z_addI {fr gr : Bool} {i j : Int} : kAdd (.v fr (.int i)) (.v gr (.int j)) ρ P = P (.v true (.int (i + j))) ρ := rfl
theorem z_addS {fr gr : Bool} {i j : List Nat} : kAdd (.v fr (.str i)) (.v gr (.str j)) ρ P = (i.length + j.length ≤ sizeLine ∧ P (.v true (.str (i ++ j))) ρ) := rfl
theorem z_addT {fr gr : Bool} {i j : List D} : kAdd (.v fr (.tup i)) (.v gr (.tup j)) ρ P = (i.length + j.length ≤ sizeLine ∧ P (.v (fr && gr) (.tup (i ++ j))) ρ) := rfl
theorem z_addL {x y : Val} {i j : List D} (hx : res ρ x = some (.lst i)) (hy : res ρ y = some (.lst j)) : kAdd x y ρ P = (i.length + j.length ≤ sizeLine ∧ P (.f (resF ρ x && resF ρ y) (i ++ j)) ρ) := by unfold kAdd; simp only [hx, hy]
theorem z_iaddI {fr gr : Bool} {i j : Int} : kIAdd (.v fr (.int i)) (.v gr (.int j)) ρ P = P (.v true (.int (i + j))) ρ := rfl
theorem z_iaddS {fr gr : Bool} {i j : List Nat} : kIAdd (.v fr (.str i)) (.v gr (.str j)) ρ P = (i.length + j.length ≤ sizeLine ∧ P (.v true (.str (i ++ j))) ρ) := rfl
@[simp] theorem z_int1 {i : Int} {R : D → Prop} : gInt [.int i] R = R (.int i) := rfl
@[simp] theorem z_int2 {i : Bool} {R : D → Prop} : gInt [.bl i] R = R (.int (if i then 1 else 0)) := rfl
@[simp] theorem z_abs {i : Int} {R : D → Prop} : gAbs [.int i] R = R (.int (if i < 0 then -i else i)) := rfl
@[simp] theorem z_max {i j : Int} {R : D → Prop} : gMax [.int i, .int j] R = R (.int (if j > i then j else i)) := rfl
@[simp] theorem z_min {i j : Int} {R : D → Prop} : gMin [.int i, .int j] R = R (.int (if j < i then j else i)) := rfl
theorem z_isi {d : D} {n : String} {R : D → Prop} : gIsi [d, .ty n] R = (match tyName d with
    | some m => okTy n = true ∧ R (.bl (isB m n))
    | none => False) := rfl
theorem z_isi2 {n k : String} : pIsi2 n k pa ρ P = pa ρ fun x ρ1 => match res ρ1 x with
  | some d => match tyName d with
    | some m => (okTy n = true ∧ okTy k = true) ∧ P (.v true (.bl (isB m n || isB m k))) ρ1
    | none => False
  | none => False := rfl
@[simp] theorem z_okTy1 : okTy "int" = true := by decide
@[simp] theorem z_okTy2 : okTy "bool" = true := by decide
@[simp] theorem z_okTy3 : okTy "str" = true := by decide
@[simp] theorem z_okTy4 : okTy "list" = true := by decide
@[simp] theorem z_okTy5 : okTy "tuple" = true := by decide
@[simp] theorem z_okTy6 : okTy "dict" = true := by decide
@[simp] theorem z_isB {a b : String} : isB a b = (a == b || (a == "bool" && b == "int")) := rfl
@[simp] theorem z_tn1 : tyName .non = some "NoneType" := rfl
@[simp] theorem z_tn2 {b : Bool} : tyName (.bl b) = some "bool" := rfl
@[simp] theorem z_tn3 {b : Int} : tyName (.int b) = some "int" := rfl
@[simp] theorem z_tn4 {b : List Nat} : tyName (.str b) = some "str" := rfl
@[simp] theorem z_tn5 {b : List D} : tyName (.tup b) = some "tuple" := rfl
@[simp] theorem z_tn6 {b : List D} : tyName (.lst b) = some "list" := rfl
@[simp] theorem z_tn7 {b : List D} : tyName (.lsr b) = some "list" := rfl
@[simp] theorem z_tn8 {b : List D} {ks : List Key} : tyName (.dic ks b) = some "dict" := rfl
@[simp] theorem z_th1 : truth .non = some false := rfl
@[simp] theorem z_th2 {b : Bool} : truth (.bl b) = some b := rfl
@[simp] theorem z_th3 {b : Int} : truth (.int b) = some (b != 0) := rfl
@[simp] theorem z_th4 {b : List Nat} : truth (.str b) = some (!b.isEmpty) := rfl
@[simp] theorem z_th5 {b : List D} : truth (.tup b) = some (!b.isEmpty) := rfl
@[simp] theorem z_th6 {b : List D} : truth (.lst b) = some (!b.isEmpty) := rfl
@[simp] theorem z_th7 {b : List D} : truth (.lsr b) = some (!b.isEmpty) := rfl
@[simp] theorem z_sz1 : szOk .non = True := rfl
@[simp] theorem z_sz2 {b : Bool} : szOk (.bl b) = True := rfl
@[simp] theorem z_sz3 {b : Int} : szOk (.int b) = True := rfl
@[simp] theorem z_sz4 {b : List Nat} : szOk (.str b) = (b.length ≤ sizeLine) := rfl
@[simp] theorem z_sz5 {b : List D} : szOk (.tup b) = True := rfl
@[simp] theorem z_sz6 {b : List D} : szOk (.lst b) = True := rfl
@[simp] theorem z_sz7 {b : List D} : szOk (.lsr b) = True := rfl
theorem z_call {n : Nat} {mu : Option Nat} {S : Spec'} : pCall n mu S ps ρ P = ps ρ fun xs ρ1 => match resAll ρ1 xs with
  | some ds => ds.length = n ∧ muOk mu ρ1 xs ds ∧ S ds fun x cs => P x (muSet mu ρ1 xs cs)
  | none => False := rfl
theorem z_mo0 {xs : List Val} {ds : List D} : muOk none ρ xs ds = True := rfl
theorem z_ms0 {xs : List Val} {ds : List D} : muSet none ρ xs ds = ρ := rfl
theorem z_ia {k : List Val → Sto → (List Val → Sto → Prop) → Prop} {R : List Val → Sto → Prop} : pIA k ps ρ R = ps ρ fun xs ρ1 => k xs ρ1 R := rfl
theorem z_r1 {xs : List Val} {R : List Val → Sto → Prop} : kR1 xs ρ R = (match resAll ρ xs with
  | some [.int j] => R62 j ∧ R (rgs 0 1 j.toNat) ρ
  | _ => False) := rfl
theorem z_r2 {xs : List Val} {R : List Val → Sto → Prop} : kR2 xs ρ R = (match resAll ρ xs with
  | some [.int i, .int j] => (R62 i ∧ R62 j) ∧ R (rgs i 1 (j - i).toNat) ρ
  | _ => False) := rfl
theorem z_r3 {xs : List Val} {R : List Val → Sto → Prop} : kR3 xs ρ R = (match resAll ρ xs with
  | some [.int i, .int j, .int c] => c = -1 ∧ (R62 i ∧ R62 j) ∧ R (rgs i (-1) (i - j).toNat) ρ
  | _ => False) := rfl
theorem z_iter {R : List Val → Sto → Prop} : pIter pa ρ R = pa ρ fun x ρ1 => match res (put ρ1 x) x with
  | some (.lst ds) => R (ds.map (.v (resF (put ρ1 x) x))) (put ρ1 x)
  | some (.lsr ds) => R (ds.map (.v (resF (put ρ1 x) x))) (put ρ1 x)
  | some (.tup ds) => R (ds.map (.v (resF (put ρ1 x) x))) (put ρ1 x)
  | some (.str y) => R (y.map fun c => .v true (.str [c])) (put ρ1 x)
  | _ => False := rfl
theorem z_yes {R : Bool → Sto → Prop} : pYes ρ R = R true ρ := rfl
theorem z_fin {mu : Option Nat} {R : Val → List D → Prop} : (ends mu R).rt = fin mu R := rfl
theorem z_fin' {mu : Option Nat} {R : Val → List D → Prop} : (ends mu R).nx = fin mu R (.v true .non) := rfl
theorem z_fin0 {R : Val → List D → Prop} {x : Val} : fin none R x ρ = (match exitV ρ x with
  | some y => R y []
  | none => False) := by
  unfold fin exitC
  cases exitV ρ x <;> rfl
theorem z_ev {fr : Bool} {d : D} : exitV ρ (.v fr d) = if fr || imm d then some (.v true d) else none := rfl
theorem z_ef {fr : Bool} {d : List D} : exitV ρ (.f fr d) = if fr || imms d then some (.f true d) else none := rfl
theorem z_es {i : Nat} : exitV ρ (.s i) = (match ρ[i]? with
    | some (some (.sh fr d)) => if fr || imm d then some (.v true d) else none
    | some (some (.ow none fr ds)) => if fr || imms ds then some (.f true ds) else none
    | some (some (.tr p d)) => if p then none else some (.v true d)
    | _ => none) := rfl
@[simp] theorem z_im1 : imm .non = true := by unfold imm; rfl
@[simp] theorem z_im2 {b : Bool} : imm (.bl b) = true := by unfold imm; rfl
@[simp] theorem z_im3 {b : Int} : imm (.int b) = true := by unfold imm; rfl
@[simp] theorem z_im4 {b : List Nat} : imm (.str b) = true := by unfold imm; rfl
@[simp] theorem z_im5 {b : List D} : imm (.tup b) = imms b := by rw [imm]
@[simp] theorem z_imn : imms [] = true := by unfold imms; rfl
@[simp] theorem z_imc {d : D} {b : List D} : imms (d :: b) = (imm d && imms b) := by rw [imms]
end
theorem imms_all : ∀ (l : List D), imms l = l.all imm
  | [] => by simp
  | d :: l => by simp [imms_all l]
@[simp] theorem imms_map {α : Type} (f : α → D) (h : ∀ a, imm (f a) = true) (l : List α) : imms (l.map f) = true := by
  rw [imms_all, List.all_map]; simp [h]

/-! ### == of data -/
abbrev Sg (x : List Nat) : Prop := ∀ c ∈ x, c < 1114112
@[simp] theorem plain_non : Plain .non := by unfold Plain; decide
@[simp] theorem plain_bl {b : Bool} : Plain (.bl b) := by unfold Plain; cases b <;> decide
@[simp] theorem plain_int {i : Int} : Plain (.int i) := by unfold Plain SeqAt.shaped; rw [D.py, PyData.canLay0, PyData.depth]; rfl
theorem plain_str {x : List Nat} (h : Sg x) : Plain (.str x) := by
  unfold Plain SeqAt.shaped; rw [D.py, PyData.canLay0, PyData.depth]
  have : PyData.strOk ⟨x.toArray⟩ = true := by
    unfold PyData.strOk
    simp only [List.all_toArray, List.all_eq_true, decide_eq_true_eq]
    exact h
  rw [this]; rfl
/-- the data's depth, and that == reads it -/
def lay1 (d : D) (n : Nat) : Prop := d.py.canLay0 = true ∧ d.py.depth ≤ n
theorem plain_of {d : D} {n : Nat} (h : lay1 d n) (hn : n ≤ 64) : Plain d := by
  unfold Plain SeqAt.shaped
  rw [h.1]
  simp only [Bool.true_and, decide_eq_true_eq]
  exact Nat.le_trans h.2 hn
theorem lay_list {ds : List D} {n : Nat} (h : ∀ d ∈ ds, lay1 d n) : PyData.canLayAll0 (D.pys ds) = true ∧ PyData.depthAll (D.pys ds) ≤ n := by
  induction ds with
  | nil => rw [D.pys, PyData.canLayAll0, PyData.depthAll]; exact ⟨rfl, Nat.zero_le _⟩
  | cons d ds ih =>
    have a := h d (List.mem_cons_self)
    have b := ih fun e he => h e (List.mem_cons_of_mem _ he)
    rw [D.pys, PyData.canLayAll0, PyData.depthAll, a.1, b.1]
    exact ⟨rfl, Nat.max_le.mpr ⟨a.2, b.2⟩⟩
theorem lay_tup {ds : List D} {n : Nat} (h : ∀ d ∈ ds, lay1 d n) : lay1 (.tup ds) (n + 1) := by
  have := lay_list h
  unfold lay1
  rw [D.py, PyData.canLay0, PyData.depth]
  exact ⟨this.1, Nat.succ_le_succ this.2⟩
theorem lay_lst {ds : List D} {n : Nat} (h : ∀ d ∈ ds, lay1 d n) : lay1 (.lst ds) (n + 1) := by
  have := lay_list h
  unfold lay1
  rw [D.py, PyData.canLay0, PyData.depth]
  exact ⟨this.1, Nat.succ_le_succ this.2⟩
theorem lay_int {i : Int} {n : Nat} : lay1 (.int i) n := by unfold lay1; rw [D.py, PyData.canLay0, PyData.depth]; exact ⟨rfl, Nat.zero_le _⟩
theorem lay_bl {i : Bool} {n : Nat} : lay1 (.bl i) n := by unfold lay1; rw [D.py, PyData.canLay0, PyData.depth]; exact ⟨rfl, Nat.zero_le _⟩
theorem lay_non {n : Nat} : lay1 .non n := by unfold lay1; rw [D.py, PyData.canLay0, PyData.depth]; exact ⟨rfl, Nat.zero_le _⟩
theorem lay_str {x : List Nat} {n : Nat} (h : Sg x) : lay1 (.str x) n := by
  unfold lay1
  rw [D.py, PyData.canLay0, PyData.depth]
  refine ⟨?_, Nat.zero_le _⟩
  unfold PyData.strOk
  simp only [List.all_toArray, List.all_eq_true, decide_eq_true_eq]
  exact h
@[simp] theorem deq_int {i j : Int} : deq (.int i) (.int j) = decide (i = j) := by
  unfold deq; rw [D.py, D.py, PyData.eqv]
  by_cases h : i = j <;> simp [h]
@[simp] theorem deq_bl {i j : Bool} : deq (.bl i) (.bl j) = decide (i = j) := by
  unfold deq; rw [D.py, D.py, PyData.eqv]
  cases i <;> cases j <;> rfl
@[simp] theorem deq_str {i j : List Nat} : deq (.str i) (.str j) = decide (i = j) := by
  unfold deq; rw [D.py, D.py, PyData.eqv]
  by_cases h : i = j
  · subst h; simp
  · have : (⟨i.toArray⟩ : Str) ≠ ⟨j.toArray⟩ := fun e => by
      have e' : i.toArray = j.toArray := congrArg Str.cps e
      exact h (by simpa using e')
    simp [h, this]
def deqs : List D → List D → Bool
  | [], [] => true
  | x :: xs, y :: ys => deq x y && deqs xs ys
  | _, _ => false
theorem eqvAll_pys : ∀ (a b : List D), PyData.eqvAll (D.pys a) (D.pys b) = deqs a b
  | [], [] => by rw [D.pys, PyData.eqvAll]; rfl
  | x :: xs, y :: ys => by
    rw [D.pys, D.pys, PyData.eqvAll, eqvAll_pys xs ys]; rfl
  | [], _ :: _ => by rw [D.pys, D.pys, PyData.eqvAll]; rfl
  | _ :: _, [] => by rw [D.pys, D.pys, PyData.eqvAll]; rfl
@[simp] theorem deq_tup {a b : List D} : deq (.tup a) (.tup b) = deqs a b := by unfold deq; rw [D.py, D.py, PyData.eqv, eqvAll_pys]
@[simp] theorem deq_lst {a b : List D} : deq (.lst a) (.lst b) = deqs a b := by unfold deq; rw [D.py, D.py, PyData.eqv, eqvAll_pys]
@[simp] theorem deqs_nil : deqs [] [] = true := rfl
@[simp] theorem deqs_cons {x y : D} {xs ys : List D} : deqs (x :: xs) (y :: ys) = (deq x y && deqs xs ys) := rfl
@[simp] theorem deqs_nc {y : D} {ys : List D} : deqs [] (y :: ys) = false := rfl
@[simp] theorem deqs_cn {y : D} {ys : List D} : deqs (y :: ys) [] = false := rfl
/-- == of like things -/
theorem deqs_map {α : Type} [DecidableEq α] (f : α → D) (h : ∀ a b, deq (f a) (f b) = decide (a = b)) : ∀ (l m : List α), deqs (l.map f) (m.map f) = decide (l = m)
  | [], [] => by simp
  | a :: l, [] => by simp
  | [], b :: m => by simp
  | a :: l, b :: m => by
    simp only [List.map_cons, deqs_cons, h, deqs_map f h l m, List.cons.injEq]
    by_cases h1 : a = b <;> by_cases h2 : l = m <;> simp [h1, h2]
@[simp] theorem deqs_ints {l m : List Int} : deqs (l.map D.int) (m.map D.int) = decide (l = m) := deqs_map _ (fun a b => deq_int) l m
@[simp] theorem deqs_strs {l m : List (List Nat)} : deqs (l.map D.str) (m.map D.str) = decide (l = m) := deqs_map _ (fun a b => deq_str) l m

/-! ### control -/
theorem seq_cut {p q : PS'} {E : PEn} {ρ : Sto} (I : Sto → Prop) (h1 : ∀ R : Sto → Prop, (∀ ρ', I ρ' → R ρ') → p { E with nx := R } ρ) (h2 : ∀ ρ', I ρ' → q E ρ') : sSeq p q E ρ := h1 _ h2
/-- a loop over items, by an invariant -/
theorem loop_ind {g : PG'} {b : PS'} {E : PEn} {items : List Val} {ρ : Sto} (I : Nat → Sto → Prop) (h0 : I 0 ρ)
    (hs : ∀ (i : Nat) (x : Val) (R : Sto → Prop) (ρ : Sto), items[i]? = some x → (∀ ρ', I (i + 1) ρ' → R ρ') → I i ρ → g x ρ fun ρ1 => b { E with nx := R, ct := R, bk := E.nx } ρ1)
    (he : ∀ ρ, I items.length ρ → E.nx ρ) : pLoop g b E items ρ := by
  have key : ∀ (m i : Nat) (ρ : Sto), m = items.length - i → i ≤ items.length → I i ρ → pLoop g b E (items.drop i) ρ := by
    intro m
    induction m with
    | zero =>
      intro i ρ hm hi h
      have e : i = items.length := by omega
      subst e
      rw [List.drop_length]
      exact he ρ h
    | succ m ih =>
      intro i ρ hm hi h
      have hlt : i < items.length := by omega
      rw [List.drop_eq_getElem_cons hlt]
      show g items[i] ρ fun ρ1 => b { E with nx := pLoop g b E (items.drop (i + 1)), ct := pLoop g b E (items.drop (i + 1)), bk := E.nx } ρ1
      exact hs i items[i] _ ρ (List.getElem?_eq_getElem hlt) (fun ρ' h' => ih (i + 1) ρ' (by omega) hlt h') h
  have := key items.length 0 ρ (by simp) (Nat.zero_le _) h0
  simpa using this
/-- the same of a range -/
theorem loop_rgs {g : PG'} {b : PS'} {E : PEn} {lo c : Int} {n : Nat} {ρ : Sto} (I : Nat → Sto → Prop) (h0 : I 0 ρ)
    (hs : ∀ (i : Nat) (R : Sto → Prop) (ρ : Sto), i < n → (∀ ρ', I (i + 1) ρ' → R ρ') → I i ρ → g (.v true (.int (lo + (i : Int) * c))) ρ fun ρ1 => b { E with nx := R, ct := R, bk := E.nx } ρ1)
    (he : ∀ ρ, I n ρ → E.nx ρ) : pLoop g b E (rgs lo c n) ρ := by
  refine loop_ind I h0 (fun i x R ρ hx hR hI => ?_) (fun ρ h => he ρ (by rw [rgs_len] at h; exact h))
  have hi : i < n := by
    have := (List.getElem?_eq_some_iff.mp hx).1
    rwa [rgs_len] at this
  rw [rgs_get hi] at hx
  cases hx
  exact hs i R ρ hi hR hI
/-- the same of data -/
theorem loop_map {α : Type} {f : α → Val} {l : List α} {g : PG'} {b : PS'} {E : PEn} {ρ : Sto} (I : Nat → Sto → Prop) (h0 : I 0 ρ)
    (hs : ∀ (i : Nat) (a : α) (R : Sto → Prop) (ρ : Sto), l[i]? = some a → (∀ ρ', I (i + 1) ρ' → R ρ') → I i ρ → g (f a) ρ fun ρ1 => b { E with nx := R, ct := R, bk := E.nx } ρ1)
    (he : ∀ ρ, I l.length ρ → E.nx ρ) : pLoop g b E (l.map f) ρ := by
  refine loop_ind I h0 (fun i x R ρ hx hR hI => ?_) (fun ρ h => he ρ (by rw [List.length_map] at h; exact h))
  rw [List.getElem?_map] at hx
  cases e : l[i]? with
  | none => rw [e] at hx; cases hx
  | some a =>
    rw [e] at hx
    cases hx
    exact hs i a R ρ e hR hI
/-- the same of numbered data -/
theorem loop_enum {f : Bool} {ds : List D} {g : PG'} {b : PS'} {E : PEn} {ρ : Sto} (I : Nat → Sto → Prop) (h0 : I 0 ρ)
    (hs : ∀ (i : Nat) (d : D) (R : Sto → Prop) (ρ : Sto), ds[i]? = some d → (∀ ρ', I (i + 1) ρ' → R ρ') → I i ρ → g (.v f (.tup [.int i, d])) ρ fun ρ1 => b { E with nx := R, ct := R, bk := E.nx } ρ1)
    (he : ∀ ρ, I ds.length ρ → E.nx ρ) : pLoop g b E (enumV f 0 ds) ρ := by
  refine loop_ind I h0 (fun i x R ρ hx hR hI => ?_) (fun ρ h => he ρ (by rw [enumV_len] at h; exact h))
  have hi : i < ds.length := by
    have := (List.getElem?_eq_some_iff.mp hx).1
    rwa [enumV_len] at this
  have e := enumV_get f 0 ds i _ (List.getElem?_eq_getElem hi)
  rw [hx] at e
  rw [Nat.zero_add] at e
  cases e
  exact hs i _ R ρ (List.getElem?_eq_getElem hi) hR hI
theorem while_ind {c : PT'} {b : PS'} {E : PEn} {ρ : Sto} (W : Sto → Prop) (μ : Sto → Nat) (h0 : W ρ)
    (hs : ∀ ρ (R : Sto → Prop), (∀ ρ', W ρ' → μ ρ' < μ ρ → R ρ') → W ρ → c ρ fun k ρ1 => if k = true then b { E with nx := R, ct := R, bk := E.nx } ρ1 else E.nx ρ1) : sWhile c b E ρ :=
  ⟨W, μ, h0, fun ρ h => hs ρ _ (fun ρ' w m => ⟨w, m⟩) h⟩
/-! items of sequences -/
theorem atI_nat {α : Type} {xs : List α} {i : Nat} (h : i < xs.length) : atI xs (i : Int) = some xs[i] := by
  unfold atI ixN
  rw [if_pos (by omega), if_pos (by omega)]
  simp
theorem atI_int {α : Type} {xs : List α} {i : Int} (h0 : 0 ≤ i) (h : i < xs.length) : atI xs i = xs[i.toNat]? := by
  unfold atI ixN
  rw [if_pos h0, if_pos h]
  rfl
theorem atI_last {α : Type} {xs : List α} (h : xs ≠ []) : atI xs (-1) = xs.getLast? := by
  have : 0 < xs.length := List.length_pos_iff.mpr h
  unfold atI ixN
  rw [if_neg (by omega), if_pos (by omega)]
  simp only [Option.bind_some]
  rw [List.getLast?_eq_getElem?]
  congr 1
  omega
theorem cut_pre {α : Type} {xs : List α} {n : Nat} : cut xs none (some (n : Int)) = xs.take n := by
  unfold cut
  rw [HT.sIx_none, HT.sIx_nat]
  simp
theorem cut_suf {α : Type} {xs : List α} {n : Nat} : cut xs (some (n : Int)) none = xs.drop n := by
  unfold cut
  rw [HT.sIx_none, HT.sIx_nat]
  rcases Nat.le_total n xs.length with h | h
  · rw [Nat.min_eq_left h, List.take_of_length_le (by simp)]
  · rw [Nat.min_eq_right h, List.drop_eq_nil_of_le h, List.drop_length]; simp
theorem cut_len {α : Type} (xs : List α) (lo hi : Option Int) : (cut xs lo hi).length ≤ xs.length := by
  unfold cut; simp; omega
theorem cut_mem {α : Type} {xs : List α} {lo hi : Option Int} {a : α} (h : a ∈ cut xs lo hi) : a ∈ xs := by
  unfold cut at h
  exact List.mem_of_mem_drop (List.mem_of_mem_take h)
end Qq

namespace Qq
open PySem PySem.Spec PyProof.Rows L2
def rpt {α : Type} (n : Nat) (a : List α) : List α := (List.replicate n a).flatten
@[simp] theorem rpt_len {α : Type} (x : List α) (n : Nat) : (rpt n x).length = n * x.length := by
  simp [rpt]
section
variable {ρ : Sto} {P : Val → Sto → Prop} {E : PEn} {p q : PS'} {pa pb : PX} {pc pd : PT'} {ps pr : PAs} {C : Sto → Prop} {fr f g : Bool}
@[simp ↓] theorem y_seq : sSeq p q E ρ = p { nx := q E, rt := E.rt, bk := E.bk, ct := E.ct } ρ := rfl
@[simp ↓] theorem y_next : sNext E ρ = E.nx ρ := rfl
@[simp ↓] theorem y_break : sBreak E ρ = E.bk ρ := rfl
@[simp ↓] theorem y_cont : sCont E ρ = E.ct ρ := rfl
@[simp ↓] theorem y_ret : sRet pa E ρ = pa ρ E.rt := rfl
@[simp ↓] theorem y_retN : sRetN E ρ = E.rt (.v true .non) ρ := rfl
@[simp ↓] theorem y_drop : sDrop pa E ρ = pa ρ fun _ ρ1 => E.nx ρ1 := rfl
@[simp ↓] theorem y_asg {g : PG'} : sAsg pa g E ρ = pa ρ fun x ρ1 => g x ρ1 E.nx := rfl
@[simp ↓] theorem y_c {d : D} : pC d ρ P = P (.v true d) ρ := rfl
@[simp ↓] theorem y_op {k : KO} : pOp k pa pb ρ P = pa ρ fun x ρ1 => pb ρ1 fun y ρ2 => k x.dn y ρ2 P := rfl
@[simp ↓] theorem y_cb {k : KC} : pCB k ps ρ P = ps ρ fun xs ρ1 => k xs ρ1 P := rfl
@[simp ↓] theorem y_nil {R : List Val → Sto → Prop} : pNil ρ R = R [] ρ := rfl
@[simp ↓] theorem y_one {R : List Val → Sto → Prop} : pOne pa ρ R = pa ρ fun x ρ1 => R [x] ρ1 := rfl
@[simp ↓] theorem y_up {k : KC} {xs : List Val} : kUp k xs ρ P = k xs ρ fun y ρ1 => kUpV y ρ1 P := rfl
@[simp ↓] theorem y_upf {d : List D} : kUpV (.f f d) ρ P = P (.f (f || imms d) d) ρ := rfl
@[simp ↓] theorem y_dic0 : pDic0 ρ P = P (.v true (.dic [] [])) ρ := rfl
@[simp ↓] theorem y_dic1 {κ : Key} {d : D} : pDic1 κ d ρ P = P (.v true (.dic [κ] [d])) ρ := rfl
@[simp ↓] theorem y_app {js : List Int} {R : List Val → Sto → Prop} : pApp ps js ρ R = ps ρ fun xs ρ1 => R (xs ++ js.map fun j => .v true (.int j)) ρ1 := rfl
@[simp ↓] theorem y_consF {R : List Val → Sto → Prop} : pConsF pa ps ρ R = pa ρ fun x ρ1 => ps ρ1 fun xs ρ2 => R (x :: xs) ρ2 := rfl
@[simp ↓] theorem y_cons {R : List Val → Sto → Prop} : pCons pa ps ρ R = pa ρ fun x ρ1 => ps ρ1 fun xs ρ2 => R (x.dn :: xs) ρ2 := rfl
@[simp ↓] theorem y_notT {R : Bool → Sto → Prop} : pNotT pc ρ R = pc ρ fun b ρ1 => R (!b) ρ1 := rfl
@[simp ↓] theorem y_andT {R : Bool → Sto → Prop} : pAndT pc pd ρ R = pc ρ fun b ρ1 => if b = true then pd ρ1 R else R false ρ1 := rfl
@[simp ↓] theorem y_orT {R : Bool → Sto → Prop} : pOrT pc pd ρ R = pc ρ fun b ρ1 => if b = true then R true ρ1 else pd ρ1 R := rfl
@[simp ↓] theorem y_pif : pIf pc pa pb ρ P = pc ρ fun b ρ1 => if b = true then pa ρ1 P else pb ρ1 P := rfl
@[simp ↓] theorem y_yes {R : Bool → Sto → Prop} : pYes ρ R = R true ρ := rfl
@[simp ↓] theorem y_ia {k : List Val → Sto → (List Val → Sto → Prop) → Prop} {R : List Val → Sto → Prop} : pIA k ps ρ R = ps ρ fun xs ρ1 => k xs ρ1 R := rfl
@[simp ↓] theorem y_noPart {R : Option Int → Sto → Prop} : pNoPart ρ R = R none ρ := rfl
@[simp ↓] theorem y_sl {pl ph : PO'} : pSl pa pl ph ρ P = pa ρ fun x ρ1 => pl ρ1 fun l ρ2 => ph ρ2 fun h ρ3 => kSl x.dn l h ρ3 P := rfl
@[simp ↓] theorem y_gsNil : gsNil [] ρ C = C ρ := rfl
@[simp ↓] theorem y_gsCons {g : PG'} {r : PGs'} {x : Val} {xs : List Val} : gsCons g r (x :: xs) ρ C = g x ρ fun ρ1 => r xs ρ1 C := rfl
@[simp ↓] theorem y_gT {n : Nat} {g : PGs'} {fr : Bool} {ds : List D} : gT n g (.v fr (.tup ds)) ρ C = (ds.length = n ∧ g (ds.map (.v fr)) ρ C) := by first | rfl | (unfold gT; simp)
@[simp] theorem y_nx {a : Sto → Prop} {b : Val → Sto → Prop} {c d : Sto → Prop} : (PEn.mk a b c d).nx = a := rfl
@[simp] theorem y_rt {a : Sto → Prop} {b : Val → Sto → Prop} {c d : Sto → Prop} : (PEn.mk a b c d).rt = b := rfl
@[simp] theorem y_bk {a : Sto → Prop} {b : Val → Sto → Prop} {c d : Sto → Prop} : (PEn.mk a b c d).bk = c := rfl
@[simp] theorem y_ct {a : Sto → Prop} {b : Val → Sto → Prop} {c d : Sto → Prop} : (PEn.mk a b c d).ct = d := rfl
/-! tests -/
def kTst (x : Val) (ρ : Sto) (R : Bool → Sto → Prop) : Prop := match x with
  | .v _ (.bl b) => R b ρ
  | _ => False
@[simp ↓] theorem y_tst : pTst pa ρ = fun R => pa ρ fun x ρ1 => kTst x ρ1 R := rfl
@[simp ↓] theorem y_tst' {R : Bool → Sto → Prop} : pTst pa ρ R = pa ρ fun x ρ1 => kTst x ρ1 R := rfl
@[simp ↓] theorem y_kTst {b : Bool} {R : Bool → Sto → Prop} : kTst (.v f (.bl b)) ρ R = R b ρ := rfl
def kTruD (d : Option D) (ρ : Sto) (R : Bool → Sto → Prop) : Prop := match d with
  | some d => match truth d with
    | some b => szOk d ∧ R b ρ
    | none => False
  | none => False
def kTru (x : Val) (ρ : Sto) (R : Bool → Sto → Prop) : Prop := kTruD (res ρ x) ρ R
@[simp ↓] theorem y_tru {R : Bool → Sto → Prop} : pTru pa ρ R = pa ρ fun x ρ1 => kTru x ρ1 R := rfl
@[simp ↓] theorem y_kTru_v {d : D} {R : Bool → Sto → Prop} : kTru (.v f d) ρ R = kTruD (some d) ρ R := rfl
@[simp ↓] theorem y_kTru_f {d : List D} {R : Bool → Sto → Prop} : kTru (.f f d) ρ R = kTruD (some (.lst d)) ρ R := rfl
theorem y_kTru_s {i : Nat} {R : Bool → Sto → Prop} : kTru (.s i) ρ R = kTruD (res ρ (.s i)) ρ R := rfl
@[simp ↓] theorem y_tr1 {R : Bool → Sto → Prop} : kTruD (some .non) ρ R = R false ρ := propext ⟨fun h => h.2, fun h => ⟨trivial, h⟩⟩
@[simp ↓] theorem y_tr2 {b : Bool} {R : Bool → Sto → Prop} : kTruD (some (.bl b)) ρ R = R b ρ := propext ⟨fun h => h.2, fun h => ⟨trivial, h⟩⟩
@[simp ↓] theorem y_tr3 {i : Int} {R : Bool → Sto → Prop} : kTruD (some (.int i)) ρ R = R (i != 0) ρ := propext ⟨fun h => h.2, fun h => ⟨trivial, h⟩⟩
@[simp ↓] theorem y_tr4 {x : List Nat} {R : Bool → Sto → Prop} : kTruD (some (.str x)) ρ R = (x.length ≤ sizeLine ∧ R (!x.isEmpty) ρ) := rfl
@[simp ↓] theorem y_tr5 {x : List D} {R : Bool → Sto → Prop} : kTruD (some (.tup x)) ρ R = R (!x.isEmpty) ρ := propext ⟨fun h => h.2, fun h => ⟨trivial, h⟩⟩
@[simp ↓] theorem y_tr6 {x : List D} {R : Bool → Sto → Prop} : kTruD (some (.lst x)) ρ R = R (!x.isEmpty) ρ := propext ⟨fun h => h.2, fun h => ⟨trivial, h⟩⟩
@[simp ↓] theorem y_tr7 {x : List D} {R : Bool → Sto → Prop} : kTruD (some (.lsr x)) ρ R = R (!x.isEmpty) ρ := propext ⟨fun h => h.2, fun h => ⟨trivial, h⟩⟩
def kAndV (x : Val) (ρ : Sto) (pb : PX) (P : Val → Sto → Prop) : Prop := match x with
  | .v _ (.bl b) => if b = true then pb ρ P else P (.v true (.bl false)) ρ
  | _ => False
def kOrV (x : Val) (ρ : Sto) (pb : PX) (P : Val → Sto → Prop) : Prop := match x with
  | .v _ (.bl b) => if b = true then P (.v true (.bl true)) ρ else pb ρ P
  | _ => False
def kNotV (x : Val) (ρ : Sto) (P : Val → Sto → Prop) : Prop := match x with
  | .v _ (.bl b) => P (.v true (.bl (!b))) ρ
  | _ => False
@[simp ↓] theorem y_andV : pAndV pa pb ρ P = pa ρ fun x ρ1 => kAndV x ρ1 pb P := rfl
@[simp ↓] theorem y_orV : pOrV pa pb ρ P = pa ρ fun x ρ1 => kOrV x ρ1 pb P := rfl
@[simp ↓] theorem y_notV : pNotV pa ρ P = pa ρ fun x ρ1 => kNotV x ρ1 P := rfl
@[simp ↓] theorem y_kAndV {b : Bool} : kAndV (.v f (.bl b)) ρ pb P = if b = true then pb ρ P else P (.v true (.bl false)) ρ := rfl
@[simp ↓] theorem y_kOrV {b : Bool} : kOrV (.v f (.bl b)) ρ pb P = if b = true then P (.v true (.bl true)) ρ else pb ρ P := rfl
@[simp ↓] theorem y_kNotV {b : Bool} : kNotV (.v f (.bl b)) ρ P = P (.v true (.bl (!b))) ρ := rfl
/-! operators -/
def kPD (k : D → D → (D → Prop) → Prop) (a b : Option D) (ρ : Sto) (P : Val → Sto → Prop) : Prop := match a, b with
  | some d, some e => k d e fun z => P (.v true z) ρ
  | _, _ => False
@[simp ↓] theorem y_kP {k : D → D → (D → Prop) → Prop} {d e : D} : kP k (.v f d) (.v g e) ρ P = k d e fun z => P (.v true z) ρ := rfl
@[simp ↓] theorem y_kPf {k : D → D → (D → Prop) → Prop} {d : D} {e : List D} : kP k (.v f d) (.f g e) ρ P = k d (.lst e) fun z => P (.v true z) ρ := rfl
theorem y_kP_g {k : D → D → (D → Prop) → Prop} {x y : Val} : kP k x y ρ P = kPD k (res ρ x) (res ρ y) ρ P := by
  unfold kPD; rfl
@[simp] theorem y_kP1 {k : D → D → (D → Prop) → Prop} {i : Nat} {y : Val} : kP k (.s i) y ρ P = kPD k (res ρ (.s i)) (res ρ y) ρ P := y_kP_g
@[simp] theorem y_kP2 {k : D → D → (D → Prop) → Prop} {i : Nat} {x : Val} : kP k x (.s i) ρ P = kPD k (res ρ x) (res ρ (.s i)) ρ P := y_kP_g
@[simp ↓] theorem y_kPD {k : D → D → (D → Prop) → Prop} {d e : D} : kPD k (some d) (some e) ρ P = k d e fun z => P (.v true z) ρ := rfl
def kIxD (a : Option D) (fr : Bool) (b : Option D) (ρ : Sto) (P : Val → Sto → Prop) : Prop := match a, b with
  | some (.lst a), some (.int i) => ∃ d, atI a i = some d ∧ P (.v fr d) ρ
  | some (.lsr a), some (.int i) => ∃ d, atI a i = some d ∧ P (.v fr d) ρ
  | some (.tup a), some (.int i) => ∃ d, atI a i = some d ∧ P (.v fr d) ρ
  | some (.str a), some (.int i) => a.length ≤ sizeLine ∧ ∃ c, atI a i = some c ∧ P (.v true (.str [c])) ρ
  | _, _ => False
theorem y_kIx_g {x y : Val} : kIx x y ρ P = kIxD (res ρ x) (resF ρ x) (res ρ y) ρ P := by
  unfold kIxD; rfl
@[simp ↓] theorem y_kIx_v {d e : D} : kIx (.v f d) (.v g e) ρ P = kIxD (some d) f (some e) ρ P := y_kIx_g
@[simp] theorem y_kIx_s {i : Nat} {y : Val} : kIx (.s i) y ρ P = kIxD (res ρ (.s i)) (resF ρ (.s i)) (res ρ y) ρ P := y_kIx_g
@[simp ↓] theorem y_ix1 {a : List D} {i : Int} : kIxD (some (.lst a)) f (some (.int i)) ρ P = (∃ d, atI a i = some d ∧ P (.v f d) ρ) := rfl
@[simp ↓] theorem y_ix2 {a : List D} {i : Int} : kIxD (some (.lsr a)) f (some (.int i)) ρ P = (∃ d, atI a i = some d ∧ P (.v f d) ρ) := rfl
@[simp ↓] theorem y_ix3 {a : List D} {i : Int} : kIxD (some (.tup a)) f (some (.int i)) ρ P = (∃ d, atI a i = some d ∧ P (.v f d) ρ) := rfl
@[simp ↓] theorem y_ix4 {a : List Nat} {i : Int} : kIxD (some (.str a)) f (some (.int i)) ρ P = (a.length ≤ sizeLine ∧ ∃ c, atI a i = some c ∧ P (.v true (.str [c])) ρ) := rfl
def kAddD (a b : Option D) (fr : Bool) (ρ : Sto) (P : Val → Sto → Prop) : Prop := match a, b with
  | some (.int i), some (.int j) => P (.v true (.int (i + j))) ρ
  | some (.str a), some (.str b) => a.length + b.length ≤ sizeLine ∧ P (.v true (.str (a ++ b))) ρ
  | some (.lst a), some (.lst b) => a.length + b.length ≤ sizeLine ∧ P (.f fr (a ++ b)) ρ
  | some (.lsr a), some (.lst b) => a.length + b.length ≤ sizeLine ∧ P (.f fr (a ++ b)) ρ
  | some (.lst a), some (.lsr b) => a.length + b.length ≤ sizeLine ∧ P (.f fr (a ++ b)) ρ
  | some (.lsr a), some (.lsr b) => a.length + b.length ≤ sizeLine ∧ P (.f fr (a ++ b)) ρ
  | some (.tup a), some (.tup b) => a.length + b.length ≤ sizeLine ∧ P (.v fr (.tup (a ++ b))) ρ
  | _, _ => False
theorem y_kAdd_g {x y : Val} : kAdd x y ρ P = kAddD (res ρ x) (res ρ y) (resF ρ x && resF ρ y) ρ P := by
  unfold kAddD; rfl
@[simp ↓] theorem y_kAdd_v {d e : D} : kAdd (.v f d) (.v g e) ρ P = kAddD (some d) (some e) (f && g) ρ P := y_kAdd_g
@[simp ↓] theorem y_kAdd_vf {d : D} {e : List D} : kAdd (.v f d) (.f g e) ρ P = kAddD (some d) (some (.lst e)) (f && g) ρ P := y_kAdd_g
@[simp] theorem y_kAdd_s {i : Nat} {y : Val} : kAdd (.s i) y ρ P = kAddD (res ρ (.s i)) (res ρ y) (resF ρ (.s i) && resF ρ y) ρ P := y_kAdd_g
@[simp] theorem y_kAdd_t {i : Nat} {x : Val} : kAdd x (.s i) ρ P = kAddD (res ρ x) (res ρ (.s i)) (resF ρ x && resF ρ (.s i)) ρ P := y_kAdd_g
@[simp ↓] theorem y_ad1 {i j : Int} : kAddD (some (.int i)) (some (.int j)) f ρ P = P (.v true (.int (i + j))) ρ := rfl
@[simp ↓] theorem y_ad2 {i j : List Nat} : kAddD (some (.str i)) (some (.str j)) f ρ P = (i.length + j.length ≤ sizeLine ∧ P (.v true (.str (i ++ j))) ρ) := rfl
@[simp ↓] theorem y_ad3 {i j : List D} : kAddD (some (.lst i)) (some (.lst j)) f ρ P = (i.length + j.length ≤ sizeLine ∧ P (.f f (i ++ j)) ρ) := rfl
@[simp ↓] theorem y_ad5 {i j : List D} : kAddD (some (.lsr i)) (some (.lst j)) f ρ P = (i.length + j.length ≤ sizeLine ∧ P (.f f (i ++ j)) ρ) := rfl
@[simp ↓] theorem y_ad6 {i j : List D} : kAddD (some (.lst i)) (some (.lsr j)) f ρ P = (i.length + j.length ≤ sizeLine ∧ P (.f f (i ++ j)) ρ) := rfl
@[simp ↓] theorem y_ad7 {i j : List D} : kAddD (some (.lsr i)) (some (.lsr j)) f ρ P = (i.length + j.length ≤ sizeLine ∧ P (.f f (i ++ j)) ρ) := rfl
@[simp ↓] theorem y_ad4 {i j : List D} : kAddD (some (.tup i)) (some (.tup j)) f ρ P = (i.length + j.length ≤ sizeLine ∧ P (.v f (.tup (i ++ j))) ρ) := rfl
@[simp ↓] theorem y_ia1 {i j : Int} : kIAdd (.v f (.int i)) (.v g (.int j)) ρ P = P (.v true (.int (i + j))) ρ := rfl
@[simp ↓] theorem y_ia2 {i j : List Nat} : kIAdd (.v f (.str i)) (.v g (.str j)) ρ P = (i.length + j.length ≤ sizeLine ∧ P (.v true (.str (i ++ j))) ρ) := rfl
def kMulD (a b : Option D) (fr : Bool) (ρ : Sto) (P : Val → Sto → Prop) : Prop := match a, b with
  | some (.int i), some (.int j) => CMulA i j ∧ P (.v true (.int (i * j))) ρ
  | some (.str a), some (.int n) => (-9223372036854775808 ≤ n ∧ n < 9223372036854775808 ∧ a.length * n.toNat ≤ sizeLine) ∧ P (.v true (.str (rpt n.toNat a))) ρ
  | some (.lst a), some (.int n) => (-9223372036854775808 ≤ n ∧ n < 9223372036854775808 ∧ a.length * n.toNat ≤ sizeLine) ∧ P (.f fr (rpt n.toNat a)) ρ
  | _, _ => False
theorem y_kMul_g {x y : Val} : kMul x y ρ P = kMulD (res ρ x) (res ρ y) (resF ρ x) ρ P := by
  unfold kMulD; rfl
@[simp ↓] theorem y_kMul_v {d e : D} : kMul (.v f d) (.v g e) ρ P = kMulD (some d) (some e) f ρ P := y_kMul_g
@[simp] theorem y_kMul_s {i : Nat} {y : Val} : kMul (.s i) y ρ P = kMulD (res ρ (.s i)) (res ρ y) (resF ρ (.s i)) ρ P := y_kMul_g
@[simp ↓] theorem y_mu1 {i j : Int} : kMulD (some (.int i)) (some (.int j)) f ρ P = (CMulA i j ∧ P (.v true (.int (i * j))) ρ) := rfl
@[simp ↓] theorem y_mu2 {a : List Nat} {n : Int} : kMulD (some (.str a)) (some (.int n)) f ρ P = ((-9223372036854775808 ≤ n ∧ n < 9223372036854775808 ∧ a.length * n.toNat ≤ sizeLine) ∧ P (.v true (.str (rpt n.toNat a))) ρ) := rfl
@[simp ↓] theorem y_mu3 {a : List D} {n : Int} : kMulD (some (.lst a)) (some (.int n)) f ρ P = ((-9223372036854775808 ≤ n ∧ n < 9223372036854775808 ∧ a.length * n.toNat ≤ sizeLine) ∧ P (.f f (rpt n.toNat a)) ρ) := rfl
def kNeg (x : Option D) (ρ : Sto) (P : Val → Sto → Prop) : Prop := match x with
  | some (.int i) => P (.v true (.int (-i))) ρ
  | _ => False
@[simp ↓] theorem y_neg : pNeg pa ρ P = pa ρ fun x ρ1 => kNeg (res ρ1 x) ρ1 P := rfl
@[simp] theorem y_kNeg2 {i : Int} : kNeg (some (.int i)) ρ P = P (.v true (.int (-i))) ρ := rfl
@[simp ↓] theorem y_kNeg {i : Int} : kNeg (res ρ (.v f (.int i))) ρ P = P (.v true (.int (-i))) ρ := rfl
def kPart (x : Val) (ρ : Sto) (R : Option Int → Sto → Prop) : Prop := match res ρ x with
  | some (.int i) => R (some i) ρ
  | _ => False
@[simp ↓] theorem y_part {R : Option Int → Sto → Prop} : pPart pa ρ R = pa ρ fun x ρ1 => kPart x ρ1 R := rfl
@[simp ↓] theorem y_kPart {i : Int} {R : Option Int → Sto → Prop} : kPart (.v f (.int i)) ρ R = R (some i) ρ := rfl
def kSlD (x : Option D) (fr : Bool) (lo hi : Option Int) (ρ : Sto) (P : Val → Sto → Prop) : Prop := match x with
  | some (.lst a) => P (.f fr (cut a lo hi)) ρ
  | some (.lsr a) => P (.f fr (cut a lo hi)) ρ
  | some (.tup a) => P (.v fr (.tup (cut a lo hi))) ρ
  | some (.str a) => a.length ≤ sizeLine ∧ P (.v true (.str (cut a lo hi))) ρ
  | _ => False
variable {lo hi : Option Int}
@[simp ↓] theorem y_kSl_v {d : D} : kSl (.v f d) lo hi ρ P = kSlD (some d) f lo hi ρ P := rfl
@[simp] theorem y_kSl_s {i : Nat} : kSl (.s i) lo hi ρ P = kSlD (res ρ (.s i)) (resF ρ (.s i)) lo hi ρ P := rfl
@[simp ↓] theorem y_sl1 {a : List D} : kSlD (some (.lst a)) f lo hi ρ P = P (.f f (cut a lo hi)) ρ := rfl
@[simp ↓] theorem y_sl2 {a : List D} : kSlD (some (.lsr a)) f lo hi ρ P = P (.f f (cut a lo hi)) ρ := rfl
@[simp ↓] theorem y_sl3 {a : List D} : kSlD (some (.tup a)) f lo hi ρ P = P (.v f (.tup (cut a lo hi))) ρ := rfl
@[simp ↓] theorem y_sl4 {a : List Nat} : kSlD (some (.str a)) f lo hi ρ P = (a.length ≤ sizeLine ∧ P (.v true (.str (cut a lo hi))) ρ) := rfl
/-! calls of built-in names -/
def kLenD (x : Option D) (ρ : Sto) (P : Val → Sto → Prop) : Prop := match x with
    | some (.str a) => a.length ≤ sizeLine ∧ P (.v true (.int (a.length : Int))) ρ
    | some (.lst a) => P (.v true (.int (a.length : Int))) ρ
    | some (.lsr a) => P (.v true (.int (a.length : Int))) ρ
    | some (.tup a) => P (.v true (.int (a.length : Int))) ρ
    | _ => False
@[simp ↓] theorem y_kLen_v {d : D} : kLen [.v f d] ρ P = kLenD (some d) ρ P := rfl
@[simp ↓] theorem y_kLen_f {d : List D} : kLen [.f f d] ρ P = P (.v true (.int (d.length : Int))) ρ := rfl
@[simp] theorem y_kLen_s {i : Nat} : kLen [.s i] ρ P = kLenD (res ρ (.s i)) ρ P := rfl
@[simp ↓] theorem y_le1 {a : List Nat} : kLenD (some (.str a)) ρ P = (a.length ≤ sizeLine ∧ P (.v true (.int (a.length : Int))) ρ) := rfl
@[simp ↓] theorem y_le2 {a : List D} : kLenD (some (.lst a)) ρ P = P (.v true (.int (a.length : Int))) ρ := rfl
@[simp ↓] theorem y_le3 {a : List D} : kLenD (some (.lsr a)) ρ P = P (.v true (.int (a.length : Int))) ρ := rfl
@[simp ↓] theorem y_le4 {a : List D} : kLenD (some (.tup a)) ρ P = P (.v true (.int (a.length : Int))) ρ := rfl
def kLisD (x : Option D) (fr : Bool) (ρ : Sto) (P : Val → Sto → Prop) : Prop := match x with
    | some (.lst a) => P (.f fr a) ρ
    | some (.lsr a) => P (.f fr a) ρ
    | some (.tup a) => P (.f fr a) ρ
    | _ => False
@[simp ↓] theorem y_kList_v {d : D} : kList [.v f d] ρ P = kLisD (some d) f ρ P := rfl
@[simp ↓] theorem y_kList_f {d : List D} : kList [.f f d] ρ P = P (.f f d) ρ := rfl
@[simp] theorem y_kList_s {i : Nat} : kList [.s i] ρ P = kLisD (res ρ (.s i)) (resF ρ (.s i)) ρ P := rfl
@[simp ↓] theorem y_li1 {a : List D} : kLisD (some (.lst a)) f ρ P = P (.f f a) ρ := rfl
@[simp ↓] theorem y_li2 {a : List D} : kLisD (some (.lsr a)) f ρ P = P (.f f a) ρ := rfl
@[simp ↓] theorem y_li3 {a : List D} : kLisD (some (.tup a)) f ρ P = P (.f f a) ρ := rfl
def kTupD (x : Option D) (fr : Bool) (ρ : Sto) (P : Val → Sto → Prop) : Prop := match x with
    | some (.lst a) => P (.v fr (.tup a)) ρ
    | some (.lsr a) => P (.v fr (.tup a)) ρ
    | some (.tup a) => P (.v fr (.tup a)) ρ
    | _ => False
@[simp ↓] theorem y_kTuple_v {d : D} : kTuple [.v f d] ρ P = kTupD (some d) f ρ P := rfl
@[simp ↓] theorem y_kTuple_f {d : List D} : kTuple [.f f d] ρ P = P (.v f (.tup d)) ρ := rfl
@[simp] theorem y_kTuple_s {i : Nat} : kTuple [.s i] ρ P = kTupD (res ρ (.s i)) (resF ρ (.s i)) ρ P := rfl
@[simp ↓] theorem y_tu1 {a : List D} : kTupD (some (.lst a)) f ρ P = P (.v f (.tup a)) ρ := rfl
@[simp ↓] theorem y_tu2 {a : List D} : kTupD (some (.lsr a)) f ρ P = P (.v f (.tup a)) ρ := rfl
@[simp ↓] theorem y_tu3 {a : List D} : kTupD (some (.tup a)) f ρ P = P (.v f (.tup a)) ρ := rfl
def kCPD (k : List D → (D → Prop) → Prop) (x : Option (List D)) (ρ : Sto) (P : Val → Sto → Prop) : Prop := match x with
  | some ds => k ds fun z => P (.v true z) ρ
  | none => False
@[simp ↓] theorem y_kCP1 {k : List D → (D → Prop) → Prop} {d : D} : kCP k [.v f d] ρ P = k [d] fun z => P (.v true z) ρ := rfl
@[simp ↓] theorem y_kCP2 {k : List D → (D → Prop) → Prop} {d e : D} : kCP k [.v f d, .v g e] ρ P = k [d, e] fun z => P (.v true z) ρ := rfl
theorem y_kCP_g {k : List D → (D → Prop) → Prop} {xs : List Val} : kCP k xs ρ P = kCPD k (resAll ρ xs) ρ P := by
  unfold kCPD; rfl
@[simp] theorem y_kCP3 {k : List D → (D → Prop) → Prop} {i : Nat} {xs : List Val} : kCP k (.s i :: xs) ρ P = kCPD k (resAll ρ (.s i :: xs)) ρ P := y_kCP_g
@[simp] theorem y_kCP4 {k : List D → (D → Prop) → Prop} {i : Nat} {x : Val} {xs : List Val} : kCP k (x :: .s i :: xs) ρ P = kCPD k (resAll ρ (x :: .s i :: xs)) ρ P := y_kCP_g
@[simp] theorem y_kCP5 {k : List D → (D → Prop) → Prop} {f : Bool} {l : List D} {xs : List Val} : kCP k (.f f l :: xs) ρ P = kCPD k (resAll ρ (.f f l :: xs)) ρ P := y_kCP_g
@[simp ↓] theorem y_kCPD {k : List D → (D → Prop) → Prop} {ds : List D} : kCPD k (some ds) ρ P = k ds fun z => P (.v true z) ρ := rfl
def kIsi (m : Option String) (n : String) (R : D → Prop) : Prop := match m with
    | some m => okTy n = true ∧ R (.bl (isB m n))
    | none => False
@[simp] theorem y_in1 {d : D} {ds : List D} {R : D → Prop} : gIn false d (.lst ds) R = (Plain d ∧ Plain (.lst ds) ∧ R (.bl (ds.any fun z => deq z d))) := rfl
@[simp] theorem y_in2 {d : D} {ds : List D} {R : D → Prop} : gIn false d (.tup ds) R = (d.flat = true ∧ ds.all D.flat = true ∧ R (.bl (ds.any fun z => deq z d))) := rfl
@[simp] theorem y_in3 {d : D} {ds : List D} {R : D → Prop} : gIn true d (.lst ds) R = (Plain d ∧ Plain (.lst ds) ∧ R (.bl (!(ds.any fun z => deq z d)))) := rfl
@[simp] theorem y_in4 {d : D} {ds : List D} {R : D → Prop} : gIn true d (.tup ds) R = (d.flat = true ∧ ds.all D.flat = true ∧ R (.bl (!(ds.any fun z => deq z d)))) := rfl
@[simp] theorem y_is1 {h : Bool → D} {a b : Bool} {R : D → Prop} : gIs h (.bl a) (.bl b) R = R (h (a == b)) := rfl
@[simp] theorem y_is2 {h : Bool → D} {R : D → Prop} : gIs h .non .non R = R (h true) := rfl
@[simp ↓] theorem y_isi {d : D} {n : String} {R : D → Prop} : gIsi [d, .ty n] R = kIsi (tyName d) n R := rfl
@[simp] theorem y_kIsi {m n : String} {R : D → Prop} : kIsi (some m) n R = (okTy n = true ∧ R (.bl (isB m n))) := rfl
def kIsi2 (x : Option String) (n k : String) (ρ : Sto) (P : Val → Sto → Prop) : Prop := match x with
    | some m => (okTy n = true ∧ okTy k = true) ∧ P (.v true (.bl (isB m n || isB m k))) ρ
    | none => False
def tyN (x : Option D) : Option String := match x with
  | some d => tyName d
  | none => none
@[simp] theorem y_tyN {d : D} : tyN (some d) = tyName d := rfl
@[simp ↓] theorem y_isi2 {n k : String} : pIsi2 n k pa ρ P = pa ρ fun x ρ1 => kIsi2 (tyN (res ρ1 x)) n k ρ1 P := by
  unfold pIsi2 kIsi2 tyN
  congr 1; funext x ρ1
  cases res ρ1 x <;> rfl
@[simp] theorem y_kIsi2 {m n k : String} : kIsi2 (some m) n k ρ P = ((okTy n = true ∧ okTy k = true) ∧ P (.v true (.bl (isB m n || isB m k))) ρ) := rfl
def kRevS (x : Option D) (ρ : Sto) (P : Val → Sto → Prop) : Prop := match x with
  | some (.str a) => a.length ≤ sizeLine ∧ P (.v true (.str a.reverse)) ρ
  | _ => False
@[simp ↓] theorem y_revS : pRevS pa ρ P = pa ρ fun x ρ1 => kRevS (res ρ1 x) ρ1 P := rfl
@[simp ↓] theorem y_kRevS {a : List Nat} : kRevS (res ρ (.v f (.str a))) ρ P = (a.length ≤ sizeLine ∧ P (.v true (.str a.reverse)) ρ) := rfl
def kLRev (x : Option D) (fr : Bool) (ρ : Sto) (P : Val → Sto → Prop) : Prop := match x with
  | some (.lst a) => P (.f fr a.reverse) ρ
  | some (.lsr a) => P (.f fr a.reverse) ρ
  | _ => False
@[simp ↓] theorem y_lstRev : pLstRev pa ρ P = pa ρ fun x ρ1 => kLRev (res ρ1 x) (resF ρ1 x) ρ1 P := rfl
@[simp] theorem y_kLRev1 {a : List D} : kLRev (some (.lst a)) f ρ P = P (.f f a.reverse) ρ := rfl
@[simp] theorem y_kLRev2 {a : List D} : kLRev (some (.lsr a)) f ρ P = P (.f f a.reverse) ρ := rfl
/-! ranges as values -/
def kRg1 (x : Option D) (ρ : Sto) (R : List Val → Sto → Prop) : Prop := match x with
  | some (.int j) => R [.v true (.int 0), .v true (.int j)] ρ
  | _ => False
def kRg2 (x y : Option D) (ρ : Sto) (R : List Val → Sto → Prop) : Prop := match x, y with
  | some (.int i), some (.int j) => R [.v true (.int i), .v true (.int j)] ρ
  | _, _ => False
@[simp ↓] theorem y_rga1 {R : List Val → Sto → Prop} : rgArgs1 pa ρ R = pa ρ fun x ρ1 => kRg1 (res ρ1 x) ρ1 R := rfl
@[simp ↓] theorem y_rga2 {R : List Val → Sto → Prop} : rgArgs2 pa pb ρ R = pa ρ fun x ρ1 => pb ρ1 fun y ρ2 => kRg2 (res ρ2 x.dn) (res ρ2 y) ρ2 R := rfl
@[simp] theorem y_kRg1 {j : Int} {R : List Val → Sto → Prop} : kRg1 (some (.int j)) ρ R = R [.v true (.int 0), .v true (.int j)] ρ := rfl
@[simp] theorem y_kRg2 {i j : Int} {R : List Val → Sto → Prop} : kRg2 (some (.int i)) (some (.int j)) ρ R = R [.v true (.int i), .v true (.int j)] ρ := rfl
def kLRg (xs : Option (List D)) (ρ : Sto) (P : Val → Sto → Prop) : Prop := match xs with
  | some [.int a, .int b] => RgQ a b ∧ P (.f true (rgD a 1 (b - a).toNat)) ρ
  | _ => False
def kTRg (xs : Option (List D)) (ρ : Sto) (P : Val → Sto → Prop) : Prop := match xs with
  | some [.int a, .int b] => RgQ a b ∧ P (.v true (.tup (rgD a 1 (b - a).toNat))) ρ
  | _ => False
@[simp ↓] theorem y_lrg : pLstRg ps ρ P = ps ρ fun xs ρ1 => kLRg (resAll ρ1 xs) ρ1 P := rfl
@[simp ↓] theorem y_trg : pTupRg ps ρ P = ps ρ fun xs ρ1 => kTRg (resAll ρ1 xs) ρ1 P := rfl
@[simp ↓] theorem y_kLRg {a b : Int} : kLRg (some [.int a, .int b]) ρ P = (RgQ a b ∧ P (.f true (rgD a 1 (b - a).toNat)) ρ) := rfl
@[simp ↓] theorem y_kTRg {a b : Int} : kTRg (some [.int a, .int b]) ρ P = (RgQ a b ∧ P (.v true (.tup (rgD a 1 (b - a).toNat))) ρ) := rfl
variable {R : List Val → Sto → Prop}
@[simp] theorem y_kZip {x y : Val} : kZip [x, y] ρ R = kZipD (res (putAll ρ [x, y]) x) (resF (putAll ρ [x, y]) x) (res (putAll ρ [x, y]) y) (resF (putAll ρ [x, y]) y) (putAll ρ [x, y]) R := rfl
@[simp ↓] theorem y_zd1 {x y : List D} : kZipD (some (.lst x)) f (some (.lst y)) g ρ R = R (zipV (f && g) x y) ρ := rfl
@[simp ↓] theorem y_zd2 {x y : List D} : kZipD (some (.lst x)) f (some (.lsr y)) g ρ R = R (zipV (f && g) x y) ρ := rfl
@[simp ↓] theorem y_zd3 {x y : List D} : kZipD (some (.lsr x)) f (some (.lst y)) g ρ R = R (zipV (f && g) x y) ρ := rfl
@[simp ↓] theorem y_zd4 {x y : List D} : kZipD (some (.lsr x)) f (some (.lsr y)) g ρ R = R (zipV (f && g) x y) ρ := rfl
@[simp ↓] theorem y_zd5 {x y : List D} : kZipD (some (.tup x)) f (some (.tup y)) g ρ R = R (zipV (f && g) x y) ρ := rfl
@[simp ↓] theorem y_zd6 {x y : List D} : kZipD (some (.tup x)) f (some (.lst y)) g ρ R = R (zipV (f && g) x y) ρ := rfl
@[simp ↓] theorem y_zd8 {x y : List D} : kZipD (some (.lst x)) f (some (.tup y)) g ρ R = R (zipV (f && g) x y) ρ := rfl
@[simp ↓] theorem y_zd9 {x y : List D} : kZipD (some (.lsr x)) f (some (.tup y)) g ρ R = R (zipV (f && g) x y) ρ := rfl
@[simp ↓] theorem y_zd7 {x y : List D} : kZipD (some (.tup x)) f (some (.lsr y)) g ρ R = R (zipV (f && g) x y) ρ := rfl
def kDn (xs : Option (List D)) (ρ : Sto) (P : Val → Sto → Prop) : Prop := match xs with
  | some [.int i, .int j, .int c] => c = -1 ∧ DnOk i j ∧ P (.v true (.tup (rgD i (-1) (i - j).toNat))) ρ
  | _ => False
@[simp ↓] theorem y_tupDn : pTupDn ps ρ P = ps ρ fun xs ρ1 => kDn (resAll ρ1 xs) ρ1 P := rfl
@[simp ↓] theorem y_kDn {i j c : Int} : kDn (some [.int i, .int j, .int c]) ρ P = (c = -1 ∧ DnOk i j ∧ P (.v true (.tup (rgD i (-1) (i - j).toNat))) ρ) := rfl
def kIRev (xs : Option (List D)) (ρ : Sto) (R : List Val → Sto → Prop) : Prop := match xs with
  | some [.int a, .int b] => (R62 a ∧ R62 b) ∧ R (rgs (a + (((b - a).toNat : Nat) : Int) - 1) (-1) (b - a).toNat) ρ
  | _ => False
@[simp ↓] theorem y_irev : pIRev ps ρ R = ps ρ fun xs ρ1 => kIRev (resAll ρ1 xs) ρ1 R := rfl
@[simp ↓] theorem y_kIRev {a b : Int} : kIRev (some [.int a, .int b]) ρ R = ((R62 a ∧ R62 b) ∧ R (rgs (a + (((b - a).toNat : Nat) : Int) - 1) (-1) (b - a).toNat) ρ) := rfl
/-! displays -/
def kDis (mk : Bool → List D → Val) (ds : Option (List D)) (fr : Bool) (ρ : Sto) (P : Val → Sto → Prop) : Prop := match ds with
  | some ds => ds.length ≤ sizeLine ∧ P (mk fr ds) ρ
  | none => False
@[simp ↓] theorem y_kDis {mk : Bool → List D → Val} {ds : List D} : kDis mk (some ds) f ρ P = (ds.length ≤ sizeLine ∧ P (mk f ds) ρ) := rfl
@[simp ↓] theorem y_lst : pLst ps ρ P = ps ρ fun xs ρ1 => kDis .f (resAll (putAll ρ1 xs) xs) (frAll (putAll ρ1 xs) xs) (putAll ρ1 xs) P := rfl
@[simp ↓] theorem y_tup : pTup ps ρ P = ps ρ fun xs ρ1 => kDis (fun f ds => .v f (.tup ds)) (resAll (putAll ρ1 xs) xs) (frAll (putAll ρ1 xs) xs) (putAll ρ1 xs) P := rfl
def consO (a : Option D) (b : Option (List D)) : Option (List D) := match a, b with
    | some d, some ds => some (d :: ds)
    | _, _ => none
@[simp] theorem y_consO {a : D} {b : List D} : consO (some a) (some b) = some (a :: b) := rfl
@[simp] theorem y_ra_cons {x : Val} {xs : List Val} : resAll ρ (x :: xs) = consO (resT ρ x) (resAll ρ xs) := rfl
/-! calls of defs -/
def kCall (n : Nat) (mu : Option Nat) (S : Spec') (xs : List Val) (ds : Option (List D)) (ρ : Sto) (P : Val → Sto → Prop) : Prop := match ds with
  | some ds => ds.length = n ∧ muOk mu ρ xs ds ∧ S ds fun x cs => P x (muSet mu ρ xs cs)
  | none => False
@[simp ↓] theorem y_call {n : Nat} {mu : Option Nat} {S : Spec'} : pCall n mu S ps ρ P = ps ρ fun xs ρ1 => kCall n mu S xs (resAll ρ1 xs) ρ1 P := rfl
@[simp ↓] theorem y_kCall0 {n : Nat} {S : Spec'} {xs : List Val} {ds : List D} : kCall n none S xs (some ds) ρ P = (ds.length = n ∧ S ds fun x _ => P x ρ) := propext ⟨fun h => ⟨h.1, h.2.2⟩, fun h => ⟨h.1, trivial, h.2⟩⟩
theorem y_kCall {n m : Nat} {S : Spec'} {xs : List Val} {ds : List D} : kCall n (some m) S xs (some ds) ρ P = (ds.length = n ∧ muOk (some m) ρ xs ds ∧ S ds fun x cs => P x (muSet (some m) ρ xs cs)) := rfl
def notS (i : Nat) : Val → Bool
  | .s j => decide (j ≠ i)
  | _ => true
@[simp] theorem y_others {i : Nat} {x : Val} {xs : List Val} : others i 0 (x :: xs) = xs.all (notS i) := by
  unfold others
  rfl
@[simp] theorem y_notS1 {i : Nat} {d : D} : notS i (.v f d) = true := rfl
@[simp] theorem y_notS2 {i : Nat} {d : List D} : notS i (.f f d) = true := rfl
@[simp] theorem y_notS3 {i j : Nat} : notS i (.s j) = decide (j ≠ i) := rfl
/-! walks -/
@[simp ↓] theorem y_r1 {j : Int} {R : List Val → Sto → Prop} : kR1 [.v f (.int j)] ρ R = (R62 j ∧ R (rgs 0 1 j.toNat) ρ) := rfl
@[simp ↓] theorem y_r2 {i j : Int} {R : List Val → Sto → Prop} : kR2 [.v f (.int i), .v g (.int j)] ρ R = ((R62 i ∧ R62 j) ∧ R (rgs i 1 (j - i).toNat) ρ) := rfl
@[simp ↓] theorem y_r3 {i j c : Int} {h : Bool} {R : List Val → Sto → Prop} : kR3 [.v f (.int i), .v g (.int j), .v h (.int c)] ρ R = (c = -1 ∧ (R62 i ∧ R62 j) ∧ R (rgs i (-1) (i - j).toNat) ρ) := rfl
def kEn (x : Val) (ρ : Sto) (R : List Val → Sto → Prop) : Prop := kEnD (res (put ρ x) x) (resF (put ρ x) x) (put ρ x) R
@[simp ↓] theorem y_enum {R : List Val → Sto → Prop} : pEnum pa ρ R = pa ρ fun x ρ1 => kEn x ρ1 R := rfl
@[simp ↓] theorem y_kEn_v {d : D} {R : List Val → Sto → Prop} : kEn (.v f d) ρ R = kEnD (some d) f ρ R := rfl
@[simp ↓] theorem y_kEn_f {d : List D} {R : List Val → Sto → Prop} : kEn (.f f d) ρ R = R (enumV f 0 d) ρ := rfl
@[simp] theorem y_kEn_s {i : Nat} {R : List Val → Sto → Prop} : kEn (.s i) ρ R = kEnD (res (put ρ (.s i)) (.s i)) (resF (put ρ (.s i)) (.s i)) (put ρ (.s i)) R := rfl
@[simp ↓] theorem y_en1 {ds : List D} {R : List Val → Sto → Prop} : kEnD (some (.lst ds)) f ρ R = R (enumV f 0 ds) ρ := rfl
@[simp ↓] theorem y_en2 {ds : List D} {R : List Val → Sto → Prop} : kEnD (some (.lsr ds)) f ρ R = R (enumV f 0 ds) ρ := rfl
@[simp ↓] theorem y_en3 {ds : List D} {R : List Val → Sto → Prop} : kEnD (some (.tup ds)) f ρ R = R (enumV f 0 ds) ρ := rfl
@[simp ↓] theorem y_en4 {y : List Nat} {R : List Val → Sto → Prop} : kEnD (some (.str y)) f ρ R = R (enumV true 0 (y.map fun c => .str [c])) ρ := rfl
def kIterD (x : Option D) (fr : Bool) (ρ : Sto) (R : List Val → Sto → Prop) : Prop := match x with
  | some (.lst ds) => R (ds.map (.v fr)) ρ
  | some (.lsr ds) => R (ds.map (.v fr)) ρ
  | some (.tup ds) => R (ds.map (.v fr)) ρ
  | some (.str y) => R (y.map fun c => .v true (.str [c])) ρ
  | _ => False
def kIter (x : Val) (ρ : Sto) (R : List Val → Sto → Prop) : Prop := kIterD (res (put ρ x) x) (resF (put ρ x) x) (put ρ x) R
@[simp ↓] theorem y_iter {R : List Val → Sto → Prop} : pIter pa ρ R = pa ρ fun x ρ1 => kIter x ρ1 R := by
  unfold pIter kIter kIterD; rfl
@[simp ↓] theorem y_kIter_v {d : D} {R : List Val → Sto → Prop} : kIter (.v f d) ρ R = kIterD (some d) f ρ R := rfl
@[simp ↓] theorem y_kIter_f {d : List D} {R : List Val → Sto → Prop} : kIter (.f f d) ρ R = R (d.map (.v f)) ρ := rfl
@[simp] theorem y_kIter_s {i : Nat} {R : List Val → Sto → Prop} : kIter (.s i) ρ R = kIterD (res (put ρ (.s i)) (.s i)) (resF (put ρ (.s i)) (.s i)) (put ρ (.s i)) R := rfl
@[simp ↓] theorem y_it1 {ds : List D} {R : List Val → Sto → Prop} : kIterD (some (.lst ds)) f ρ R = R (ds.map (.v f)) ρ := rfl
@[simp ↓] theorem y_it2 {ds : List D} {R : List Val → Sto → Prop} : kIterD (some (.lsr ds)) f ρ R = R (ds.map (.v f)) ρ := rfl
@[simp ↓] theorem y_it3 {ds : List D} {R : List Val → Sto → Prop} : kIterD (some (.tup ds)) f ρ R = R (ds.map (.v f)) ρ := rfl
@[simp ↓] theorem y_it4 {y : List Nat} {R : List Val → Sto → Prop} : kIterD (some (.str y)) f ρ R = R (y.map fun c => .v true (.str [c])) ρ := rfl
/-! the end -/
@[simp] theorem y_ends_rt {mu : Option Nat} {R : Val → List D → Prop} : (ends mu R).rt = fin mu R := rfl
@[simp] theorem y_ends_nx {mu : Option Nat} {R : Val → List D → Prop} : (ends mu R).nx = fin mu R (.v true .non) := rfl
@[simp ↓] theorem y_fin1 {R : Val → List D → Prop} {d : D} : fin none R (.v true d) ρ = R (.v true d) [] := rfl
@[simp] theorem y_fin2 {R : Val → List D → Prop} {d : D} : fin none R (.v f d) ρ = ((f || imm d) = true ∧ R (.v true d) []) := by
  rw [z_fin0, z_ev]
  cases f <;> cases imm d <;> simp
@[simp ↓] theorem y_fin3 {R : Val → List D → Prop} {d : List D} : fin none R (.f true d) ρ = R (.f true d) [] := rfl
@[simp] theorem y_fin4 {R : Val → List D → Prop} {d : List D} : fin none R (.f f d) ρ = ((f || imms d) = true ∧ R (.f true d) []) := by
  rw [z_fin0, z_ef]
  cases f <;> cases imms d <;> simp
def finS (R : Val → List D → Prop) (c : Option (Option Cel)) : Prop := match c with
    | some (some (.sh fr d)) => (fr || imm d) = true ∧ R (.v true d) []
    | some (some (.ow none fr ds)) => (fr || imms ds) = true ∧ R (.f true ds) []
    | some (some (.tr p d)) => p = false ∧ R (.v true d) []
    | _ => False
@[simp] theorem y_finS3 {R : Val → List D → Prop} {p : Bool} {d : D} : finS R (some (some (.tr p d))) = (p = false ∧ R (.v true d) []) := rfl
@[simp] theorem y_finS {R : Val → List D → Prop} {i : Nat} : fin none R (.s i) ρ = finS R ρ[i]? := by
  rw [z_fin0, z_es]
  unfold finS
  cases ρ[i]? with
  | none => rfl
  | some c =>
    cases c with
    | none => rfl
    | some c =>
      cases c with
      | sh fr d => cases e : fr || imm d <;> simp [e]
      | ow k fr ds =>
        cases k with
        | none => cases e : fr || imms ds <;> simp [e]
        | some k => rfl
      | tr p d => cases p <;> simp
@[simp] theorem y_finS1 {R : Val → List D → Prop} {d : D} : finS R (some (some (.sh f d))) = ((f || imm d) = true ∧ R (.v true d) []) := rfl
@[simp] theorem y_finS2 {R : Val → List D → Prop} {d : List D} : finS R (some (some (.ow none f d))) = ((f || imms d) = true ∧ R (.f true d) []) := rfl
def finC (F : List D → Prop) (c : Option (Option Cel)) : Prop := match c with
    | some (some (.ow (some 0) _ cs)) => imms cs = true ∧ F cs
    | _ => False
@[simp] theorem y_finC {F : List D → Prop} {cs : List D} : finC F (some (some (.ow (some 0) f cs))) = (imms cs = true ∧ F cs) := rfl
theorem fin_some {R : Val → List D → Prop} {m : Nat} {x y : Val} {b : Bool} (h : exitV ρ x = if b then some y else none) : fin (some m) R x ρ = (b = true ∧ finC (fun cs => R y cs) ρ[m]?) := by
  unfold fin exitC finC
  rw [h]
  cases b with
  | false => simp
  | true =>
    simp only [if_true]
    cases ρ[m]? with
    | none => simp
    | some c =>
      cases c with
      | none => simp
      | some c =>
        cases c with
        | sh fr d => simp
        | ow k fr ds =>
          cases k with
          | none => simp
          | some k =>
            cases k with
            | zero => cases e : imms ds <;> simp [e]
            | succ k => simp
        | tr p d => simp
@[simp] theorem y_finm {R : Val → List D → Prop} {m : Nat} {d : D} : fin (some m) R (.v f d) ρ = ((f || imm d) = true ∧ finC (fun cs => R (.v true d) cs) ρ[m]?) := fin_some rfl
@[simp] theorem y_finmf {R : Val → List D → Prop} {m : Nat} {d : List D} : fin (some m) R (.f f d) ρ = ((f || imms d) = true ∧ finC (fun cs => R (.f true d) cs) ρ[m]?) := fin_some rfl
def finSm (R : Val → List D → Prop) (m : Nat) (ρ : Sto) (c : Option (Option Cel)) : Prop := match c with
    | some (some (.sh fr d)) => (fr || imm d) = true ∧ finC (fun cs => R (.v true d) cs) ρ[m]?
    | some (some (.ow none fr ds)) => (fr || imms ds) = true ∧ finC (fun cs => R (.f true ds) cs) ρ[m]?
    | some (some (.tr p d)) => (!p) = true ∧ finC (fun cs => R (.v true d) cs) ρ[m]?
    | _ => False
@[simp] theorem y_finms {R : Val → List D → Prop} {m i : Nat} : fin (some m) R (.s i) ρ = finSm R m ρ ρ[i]? := by
  have e : exitV ρ (.s i) = _ := z_es
  unfold finSm
  cases h : ρ[i]? with
  | none => rw [h] at e; unfold fin; rw [e]
  | some c =>
    cases c with
    | none => rw [h] at e; unfold fin; rw [e]
    | some c =>
      rw [h] at e
      cases c with
      | sh fr d => exact fin_some e
      | ow k fr ds =>
        cases k with
        | none => exact fin_some e
        | some k => unfold fin; rw [e]
      | tr p d =>
        refine fin_some (e.trans ?_)
        cases p <;> rfl
@[simp] theorem y_finSm1 {R : Val → List D → Prop} {m : Nat} {d : D} : finSm R m ρ (some (some (.sh f d))) = ((f || imm d) = true ∧ finC (fun cs => R (.v true d) cs) ρ[m]?) := rfl
@[simp] theorem y_finSm2 {R : Val → List D → Prop} {m : Nat} {d : List D} : finSm R m ρ (some (some (.ow none f d))) = ((f || imms d) = true ∧ finC (fun cs => R (.f true d) cs) ρ[m]?) := rfl
/-- a call that changes its first argument, which slot i owns -/
theorem y_kCallm {n i : Nat} {S : Spec'} {xs : List Val} {ds : List D} {k : Option Nat} {cs : List D} (h : ρ[i]? = some (some (.ow k f cs))) : kCall n (some 0) S (.s i :: xs) (some ds) ρ P = (ds.length = n ∧ (imms cs = true ∧ others i 0 (.s i :: xs) = true) ∧ S ds fun x cs' => P x (ρ.set i (some (.ow k f cs')))) := by
  unfold kCall muOk muSet
  simp only [List.getElem?_cons_zero, h]
/-- .. a new list -/
@[simp] theorem y_kCallf {n : Nat} {S : Spec'} {xs : List Val} {ds : List D} {d : D} {cs : List D} : kCall n (some 0) S (.f f cs :: xs) (some (d :: ds)) ρ P = ((d :: ds).length = n ∧ (imms cs = true ∧ othF xs ds = true) ∧ S (d :: ds) fun x _ => P x ρ) := by
  unfold kCall muOk muSet
  simp only [List.getElem?_cons_zero, List.eraseIdx_cons_zero]
@[simp] theorem y_othN {xs : List Val} : othF xs [] = true := by unfold othF; simp
@[simp] theorem y_othS {i : Nat} {xs : List Val} {d : D} {ds : List D} : othF (.s i :: xs) (d :: ds) = othF xs ds := by unfold othF; simp [Val.isS]
@[simp] theorem y_othV {f : Bool} {e : D} {xs : List Val} {d : D} {ds : List D} : othF (.v f e :: xs) (d :: ds) = (imm d && othF xs ds) := by unfold othF; simp [Val.isS]
@[simp] theorem y_gNs {i j : Nat} : gN i (.s j) ρ C = (i < ρ.length ∧ C (sto ρ i (.s j))) := rfl
/-! slot by slot -/
def kAug (i : Nat) (fr : Bool) (d : D) (k : KO) (y : Val) (ρ : Sto) (R : Sto → Prop) : Prop := ρ[i]? = some (some (.sh fr d)) ∧ k (.v fr d) y ρ fun z ρ2 => gN i z ρ2 R
def kApp (i : Nat) (y : Val) (ρ1 : Sto) (P : Val → Sto → Prop) : Prop := match (put ρ1 y)[i]?, res (put ρ1 y) y with
    | some (some (.ow k fr ds)), some d => ds.length < sizeLine ∧ P (.v true .non) ((put ρ1 y).set i (some (.ow k (fr && resF (put ρ1 y) y) (ds ++ [d]))))
    | _, _ => False
def kSet (i : Nat) (fx : Bool) (d : D) (y : Val) (ρ1 : Sto) (R : Sto → Prop) : Prop := match ρ1[i]?, res ρ1 y with
      | some (some (.ow k fr ds)), some (.int z) => ∃ j, ixN ds.length z = some j ∧ R (ρ1.set i (some (.ow k (fr && fx) (ds.set j d))))
      | _, _ => False

@[simp ↓] theorem yvs0 {d : D} : pVar 0 (some (.sh fr d) :: ρ) P = P (.v fr d) (some (.sh fr d) :: ρ) := rfl
@[simp ↓] theorem yvo0 {k : Option Nat} {ds : List D} : pVar 0 (some (.ow k fr ds) :: ρ) P = P (.s 0) (some (.ow k fr ds) :: ρ) := rfl
@[simp ↓] theorem ygv0 {c : Option Cel} {d : D} : gN 0 (.v fr d) (c :: ρ) C = C (some (.sh fr d) :: ρ) := propext ⟨fun h => h.2, fun h => ⟨by simp, h⟩⟩
@[simp ↓] theorem ygf0 {c : Option Cel} {d : List D} : gN 0 (.f fr d) (c :: ρ) C = C (some (.ow none fr d) :: ρ) := propext ⟨fun h => h.2, fun h => ⟨by simp, h⟩⟩
@[simp ↓] theorem yrs0 {c : Cel} : res (some c :: ρ) (.s 0) = c.rd := rfl
@[simp ↓] theorem yrt0 {c : Cel} : resT (some c :: ρ) (.s 0) = some c.dat := rfl
@[simp ↓] theorem yvt0 {pp : Bool} {td : D} : pVar 0 (some (.tr pp td) :: ρ) P = P (.s 0) (some (.tr pp td) :: ρ) := rfl
@[simp ↓] theorem ypu0 {pp : Bool} {td : D} : put (some (.tr pp td) :: ρ) (.s 0) = (some (.sh (!pp) td) :: ρ) := rfl
@[simp ↓] theorem yrf0 {c : Cel} : resF (some c :: ρ) (.s 0) = c.frs := rfl
@[simp ↓] theorem ypt0 {k : Option Nat} {ds : List D} : put (some (.ow k fr ds) :: ρ) (.s 0) = (some (.sh fr (.lst ds)) :: ρ) := rfl
@[simp ↓] theorem yps0 {d : D} : put (some (.sh fr d) :: ρ) (.s 0) = (some (.sh fr d) :: ρ) := rfl
@[simp] theorem ycm0 {n : Nat} {S : Spec'} {xs : List Val} {us : List D} {k : Option Nat} {ds : List D} : kCall n (some 0) S (.s 0 :: xs) (some us) (some (.ow k fr ds) :: ρ) P = (us.length = n ∧ (imms ds = true ∧ others 0 0 (.s 0 :: xs) = true) ∧ S us fun x cs => P x (some (.ow k fr cs) :: ρ)) := by rw [y_kCallm (i := 0) rfl]; rfl
@[simp ↓] theorem yau0 {d : D} {k : KO} : sAug 0 pa k E (some (.sh fr d) :: ρ) = pa (some (.sh fr d) :: ρ) fun y ρ1 => kAug 0 fr d k y ρ1 E.nx := rfl
@[simp ↓] theorem yak0 {d : D} {k : KO} {y : Val} : kAug 0 fr d k y (some (.sh fr d) :: ρ) C = k (.v fr d) y (some (.sh fr d) :: ρ) fun z ρ2 => gN 0 z ρ2 C := propext ⟨fun h => h.2, fun h => ⟨rfl, h⟩⟩
@[simp ↓] theorem yap0 {k : Option Nat} {ds : List D} : pAppend 0 pa (some (.ow k fr ds) :: ρ) P = pa (some (.ow k fr ds) :: ρ) fun y ρ1 => kApp 0 y ρ1 P := rfl
@[simp ↓] theorem yaq0 {d : D} {k : Option Nat} {ds : List D} : kApp 0 (.v f d) (some (.ow k fr ds) :: ρ) P = (ds.length < sizeLine ∧ P (.v true .non) (some (.ow k (fr && f) (ds ++ [d])) :: ρ)) := rfl
@[simp ↓] theorem yar0 {d : List D} {k : Option Nat} {ds : List D} : kApp 0 (.f f d) (some (.ow k fr ds) :: ρ) P = (ds.length < sizeLine ∧ P (.v true .non) (some (.ow k (fr && f) (ds ++ [.lst d])) :: ρ)) := rfl
@[simp ↓] theorem ypo0 {k : Option Nat} {ds : List D} : pPop 0 (some (.ow k fr ds) :: ρ) P = (∃ d, ds[ds.length - 1]? = some d ∧ P (.v fr d) (some (.ow k fr ds.dropLast) :: ρ)) := rfl
@[simp ↓] theorem ypa0 {k : Option Nat} {ds : List D} : pPopAt 0 pa (some (.ow k fr ds) :: ρ) P = pa (some (.ow k fr ds) :: ρ) fun y ρ1 => kPopAt 0 y ρ1 P := rfl
@[simp ↓] theorem ykp0 {k : Option Nat} {ds : List D} {z : Int} : kPopAt 0 (.v g (.int z)) (some (.ow k fr ds) :: ρ) P = (-(2 ^ 63) ≤ z ∧ z < 2 ^ 63 ∧ ∃ j d, ixN ds.length z = some j ∧ ds[j]? = some d ∧ P (.v fr d) (some (.ow k fr (ds.eraseIdx j)) :: ρ)) := rfl
@[simp ↓] theorem yse0 {d : D} {k : Option Nat} {ds : List D} : gSet 0 pa (.v f d) (some (.ow k fr ds) :: ρ) C = pa (some (.ow k fr ds) :: ρ) fun y ρ1 => kSet 0 f d y ρ1 C := rfl
@[simp ↓] theorem ysk0 {d : D} {k : Option Nat} {ds : List D} {z : Int} : kSet 0 f d (.v g (.int z)) (some (.ow k fr ds) :: ρ) C = (∃ j, ixN ds.length z = some j ∧ C (some (.ow k (fr && f) (ds.set j d)) :: ρ)) := rfl
@[simp ↓] theorem yvs1 {a0 : Option Cel} {d : D} : pVar 1 (a0 :: some (.sh fr d) :: ρ) P = P (.v fr d) (a0 :: some (.sh fr d) :: ρ) := rfl
@[simp ↓] theorem yvo1 {a0 : Option Cel} {k : Option Nat} {ds : List D} : pVar 1 (a0 :: some (.ow k fr ds) :: ρ) P = P (.s 1) (a0 :: some (.ow k fr ds) :: ρ) := rfl
@[simp ↓] theorem ygv1 {a0 : Option Cel} {c : Option Cel} {d : D} : gN 1 (.v fr d) (a0 :: c :: ρ) C = C (a0 :: some (.sh fr d) :: ρ) := propext ⟨fun h => h.2, fun h => ⟨by simp, h⟩⟩
@[simp ↓] theorem ygf1 {a0 : Option Cel} {c : Option Cel} {d : List D} : gN 1 (.f fr d) (a0 :: c :: ρ) C = C (a0 :: some (.ow none fr d) :: ρ) := propext ⟨fun h => h.2, fun h => ⟨by simp, h⟩⟩
@[simp ↓] theorem yrs1 {a0 : Option Cel} {c : Cel} : res (a0 :: some c :: ρ) (.s 1) = c.rd := rfl
@[simp ↓] theorem yrt1 {a0 : Option Cel} {c : Cel} : resT (a0 :: some c :: ρ) (.s 1) = some c.dat := rfl
@[simp ↓] theorem yvt1 {a0 : Option Cel} {pp : Bool} {td : D} : pVar 1 (a0 :: some (.tr pp td) :: ρ) P = P (.s 1) (a0 :: some (.tr pp td) :: ρ) := rfl
@[simp ↓] theorem ypu1 {a0 : Option Cel} {pp : Bool} {td : D} : put (a0 :: some (.tr pp td) :: ρ) (.s 1) = (a0 :: some (.sh (!pp) td) :: ρ) := rfl
@[simp ↓] theorem yrf1 {a0 : Option Cel} {c : Cel} : resF (a0 :: some c :: ρ) (.s 1) = c.frs := rfl
@[simp ↓] theorem ypt1 {a0 : Option Cel} {k : Option Nat} {ds : List D} : put (a0 :: some (.ow k fr ds) :: ρ) (.s 1) = (a0 :: some (.sh fr (.lst ds)) :: ρ) := rfl
@[simp ↓] theorem yps1 {a0 : Option Cel} {d : D} : put (a0 :: some (.sh fr d) :: ρ) (.s 1) = (a0 :: some (.sh fr d) :: ρ) := rfl
@[simp] theorem ycm1 {a0 : Option Cel} {n : Nat} {S : Spec'} {xs : List Val} {us : List D} {k : Option Nat} {ds : List D} : kCall n (some 0) S (.s 1 :: xs) (some us) (a0 :: some (.ow k fr ds) :: ρ) P = (us.length = n ∧ (imms ds = true ∧ others 1 0 (.s 1 :: xs) = true) ∧ S us fun x cs => P x (a0 :: some (.ow k fr cs) :: ρ)) := by rw [y_kCallm (i := 1) rfl]; rfl
@[simp ↓] theorem yau1 {a0 : Option Cel} {d : D} {k : KO} : sAug 1 pa k E (a0 :: some (.sh fr d) :: ρ) = pa (a0 :: some (.sh fr d) :: ρ) fun y ρ1 => kAug 1 fr d k y ρ1 E.nx := rfl
@[simp ↓] theorem yak1 {a0 : Option Cel} {d : D} {k : KO} {y : Val} : kAug 1 fr d k y (a0 :: some (.sh fr d) :: ρ) C = k (.v fr d) y (a0 :: some (.sh fr d) :: ρ) fun z ρ2 => gN 1 z ρ2 C := propext ⟨fun h => h.2, fun h => ⟨rfl, h⟩⟩
@[simp ↓] theorem yap1 {a0 : Option Cel} {k : Option Nat} {ds : List D} : pAppend 1 pa (a0 :: some (.ow k fr ds) :: ρ) P = pa (a0 :: some (.ow k fr ds) :: ρ) fun y ρ1 => kApp 1 y ρ1 P := rfl
@[simp ↓] theorem yaq1 {a0 : Option Cel} {d : D} {k : Option Nat} {ds : List D} : kApp 1 (.v f d) (a0 :: some (.ow k fr ds) :: ρ) P = (ds.length < sizeLine ∧ P (.v true .non) (a0 :: some (.ow k (fr && f) (ds ++ [d])) :: ρ)) := rfl
@[simp ↓] theorem yar1 {a0 : Option Cel} {d : List D} {k : Option Nat} {ds : List D} : kApp 1 (.f f d) (a0 :: some (.ow k fr ds) :: ρ) P = (ds.length < sizeLine ∧ P (.v true .non) (a0 :: some (.ow k (fr && f) (ds ++ [.lst d])) :: ρ)) := rfl
@[simp ↓] theorem ypo1 {a0 : Option Cel} {k : Option Nat} {ds : List D} : pPop 1 (a0 :: some (.ow k fr ds) :: ρ) P = (∃ d, ds[ds.length - 1]? = some d ∧ P (.v fr d) (a0 :: some (.ow k fr ds.dropLast) :: ρ)) := rfl
@[simp ↓] theorem ypa1 {a0 : Option Cel} {k : Option Nat} {ds : List D} : pPopAt 1 pa (a0 :: some (.ow k fr ds) :: ρ) P = pa (a0 :: some (.ow k fr ds) :: ρ) fun y ρ1 => kPopAt 1 y ρ1 P := rfl
@[simp ↓] theorem ykp1 {a0 : Option Cel} {k : Option Nat} {ds : List D} {z : Int} : kPopAt 1 (.v g (.int z)) (a0 :: some (.ow k fr ds) :: ρ) P = (-(2 ^ 63) ≤ z ∧ z < 2 ^ 63 ∧ ∃ j d, ixN ds.length z = some j ∧ ds[j]? = some d ∧ P (.v fr d) (a0 :: some (.ow k fr (ds.eraseIdx j)) :: ρ)) := rfl
@[simp ↓] theorem yse1 {a0 : Option Cel} {d : D} {k : Option Nat} {ds : List D} : gSet 1 pa (.v f d) (a0 :: some (.ow k fr ds) :: ρ) C = pa (a0 :: some (.ow k fr ds) :: ρ) fun y ρ1 => kSet 1 f d y ρ1 C := rfl
@[simp ↓] theorem ysk1 {a0 : Option Cel} {d : D} {k : Option Nat} {ds : List D} {z : Int} : kSet 1 f d (.v g (.int z)) (a0 :: some (.ow k fr ds) :: ρ) C = (∃ j, ixN ds.length z = some j ∧ C (a0 :: some (.ow k (fr && f) (ds.set j d)) :: ρ)) := rfl
@[simp ↓] theorem yvs2 {a0 a1 : Option Cel} {d : D} : pVar 2 (a0 :: a1 :: some (.sh fr d) :: ρ) P = P (.v fr d) (a0 :: a1 :: some (.sh fr d) :: ρ) := rfl
@[simp ↓] theorem yvo2 {a0 a1 : Option Cel} {k : Option Nat} {ds : List D} : pVar 2 (a0 :: a1 :: some (.ow k fr ds) :: ρ) P = P (.s 2) (a0 :: a1 :: some (.ow k fr ds) :: ρ) := rfl
@[simp ↓] theorem ygv2 {a0 a1 : Option Cel} {c : Option Cel} {d : D} : gN 2 (.v fr d) (a0 :: a1 :: c :: ρ) C = C (a0 :: a1 :: some (.sh fr d) :: ρ) := propext ⟨fun h => h.2, fun h => ⟨by simp, h⟩⟩
@[simp ↓] theorem ygf2 {a0 a1 : Option Cel} {c : Option Cel} {d : List D} : gN 2 (.f fr d) (a0 :: a1 :: c :: ρ) C = C (a0 :: a1 :: some (.ow none fr d) :: ρ) := propext ⟨fun h => h.2, fun h => ⟨by simp, h⟩⟩
@[simp ↓] theorem yrs2 {a0 a1 : Option Cel} {c : Cel} : res (a0 :: a1 :: some c :: ρ) (.s 2) = c.rd := rfl
@[simp ↓] theorem yrt2 {a0 a1 : Option Cel} {c : Cel} : resT (a0 :: a1 :: some c :: ρ) (.s 2) = some c.dat := rfl
@[simp ↓] theorem yvt2 {a0 a1 : Option Cel} {pp : Bool} {td : D} : pVar 2 (a0 :: a1 :: some (.tr pp td) :: ρ) P = P (.s 2) (a0 :: a1 :: some (.tr pp td) :: ρ) := rfl
@[simp ↓] theorem ypu2 {a0 a1 : Option Cel} {pp : Bool} {td : D} : put (a0 :: a1 :: some (.tr pp td) :: ρ) (.s 2) = (a0 :: a1 :: some (.sh (!pp) td) :: ρ) := rfl
@[simp ↓] theorem yrf2 {a0 a1 : Option Cel} {c : Cel} : resF (a0 :: a1 :: some c :: ρ) (.s 2) = c.frs := rfl
@[simp ↓] theorem ypt2 {a0 a1 : Option Cel} {k : Option Nat} {ds : List D} : put (a0 :: a1 :: some (.ow k fr ds) :: ρ) (.s 2) = (a0 :: a1 :: some (.sh fr (.lst ds)) :: ρ) := rfl
@[simp ↓] theorem yps2 {a0 a1 : Option Cel} {d : D} : put (a0 :: a1 :: some (.sh fr d) :: ρ) (.s 2) = (a0 :: a1 :: some (.sh fr d) :: ρ) := rfl
@[simp] theorem ycm2 {a0 a1 : Option Cel} {n : Nat} {S : Spec'} {xs : List Val} {us : List D} {k : Option Nat} {ds : List D} : kCall n (some 0) S (.s 2 :: xs) (some us) (a0 :: a1 :: some (.ow k fr ds) :: ρ) P = (us.length = n ∧ (imms ds = true ∧ others 2 0 (.s 2 :: xs) = true) ∧ S us fun x cs => P x (a0 :: a1 :: some (.ow k fr cs) :: ρ)) := by rw [y_kCallm (i := 2) rfl]; rfl
@[simp ↓] theorem yau2 {a0 a1 : Option Cel} {d : D} {k : KO} : sAug 2 pa k E (a0 :: a1 :: some (.sh fr d) :: ρ) = pa (a0 :: a1 :: some (.sh fr d) :: ρ) fun y ρ1 => kAug 2 fr d k y ρ1 E.nx := rfl
@[simp ↓] theorem yak2 {a0 a1 : Option Cel} {d : D} {k : KO} {y : Val} : kAug 2 fr d k y (a0 :: a1 :: some (.sh fr d) :: ρ) C = k (.v fr d) y (a0 :: a1 :: some (.sh fr d) :: ρ) fun z ρ2 => gN 2 z ρ2 C := propext ⟨fun h => h.2, fun h => ⟨rfl, h⟩⟩
@[simp ↓] theorem yap2 {a0 a1 : Option Cel} {k : Option Nat} {ds : List D} : pAppend 2 pa (a0 :: a1 :: some (.ow k fr ds) :: ρ) P = pa (a0 :: a1 :: some (.ow k fr ds) :: ρ) fun y ρ1 => kApp 2 y ρ1 P := rfl
@[simp ↓] theorem yaq2 {a0 a1 : Option Cel} {d : D} {k : Option Nat} {ds : List D} : kApp 2 (.v f d) (a0 :: a1 :: some (.ow k fr ds) :: ρ) P = (ds.length < sizeLine ∧ P (.v true .non) (a0 :: a1 :: some (.ow k (fr && f) (ds ++ [d])) :: ρ)) := rfl
@[simp ↓] theorem yar2 {a0 a1 : Option Cel} {d : List D} {k : Option Nat} {ds : List D} : kApp 2 (.f f d) (a0 :: a1 :: some (.ow k fr ds) :: ρ) P = (ds.length < sizeLine ∧ P (.v true .non) (a0 :: a1 :: some (.ow k (fr && f) (ds ++ [.lst d])) :: ρ)) := rfl
@[simp ↓] theorem ypo2 {a0 a1 : Option Cel} {k : Option Nat} {ds : List D} : pPop 2 (a0 :: a1 :: some (.ow k fr ds) :: ρ) P = (∃ d, ds[ds.length - 1]? = some d ∧ P (.v fr d) (a0 :: a1 :: some (.ow k fr ds.dropLast) :: ρ)) := rfl
@[simp ↓] theorem ypa2 {a0 a1 : Option Cel} {k : Option Nat} {ds : List D} : pPopAt 2 pa (a0 :: a1 :: some (.ow k fr ds) :: ρ) P = pa (a0 :: a1 :: some (.ow k fr ds) :: ρ) fun y ρ1 => kPopAt 2 y ρ1 P := rfl
@[simp ↓] theorem ykp2 {a0 a1 : Option Cel} {k : Option Nat} {ds : List D} {z : Int} : kPopAt 2 (.v g (.int z)) (a0 :: a1 :: some (.ow k fr ds) :: ρ) P = (-(2 ^ 63) ≤ z ∧ z < 2 ^ 63 ∧ ∃ j d, ixN ds.length z = some j ∧ ds[j]? = some d ∧ P (.v fr d) (a0 :: a1 :: some (.ow k fr (ds.eraseIdx j)) :: ρ)) := rfl
@[simp ↓] theorem yse2 {a0 a1 : Option Cel} {d : D} {k : Option Nat} {ds : List D} : gSet 2 pa (.v f d) (a0 :: a1 :: some (.ow k fr ds) :: ρ) C = pa (a0 :: a1 :: some (.ow k fr ds) :: ρ) fun y ρ1 => kSet 2 f d y ρ1 C := rfl
@[simp ↓] theorem ysk2 {a0 a1 : Option Cel} {d : D} {k : Option Nat} {ds : List D} {z : Int} : kSet 2 f d (.v g (.int z)) (a0 :: a1 :: some (.ow k fr ds) :: ρ) C = (∃ j, ixN ds.length z = some j ∧ C (a0 :: a1 :: some (.ow k (fr && f) (ds.set j d)) :: ρ)) := rfl
@[simp ↓] theorem yvs3 {a0 a1 a2 : Option Cel} {d : D} : pVar 3 (a0 :: a1 :: a2 :: some (.sh fr d) :: ρ) P = P (.v fr d) (a0 :: a1 :: a2 :: some (.sh fr d) :: ρ) := rfl
@[simp ↓] theorem yvo3 {a0 a1 a2 : Option Cel} {k : Option Nat} {ds : List D} : pVar 3 (a0 :: a1 :: a2 :: some (.ow k fr ds) :: ρ) P = P (.s 3) (a0 :: a1 :: a2 :: some (.ow k fr ds) :: ρ) := rfl
@[simp ↓] theorem ygv3 {a0 a1 a2 : Option Cel} {c : Option Cel} {d : D} : gN 3 (.v fr d) (a0 :: a1 :: a2 :: c :: ρ) C = C (a0 :: a1 :: a2 :: some (.sh fr d) :: ρ) := propext ⟨fun h => h.2, fun h => ⟨by simp, h⟩⟩
@[simp ↓] theorem ygf3 {a0 a1 a2 : Option Cel} {c : Option Cel} {d : List D} : gN 3 (.f fr d) (a0 :: a1 :: a2 :: c :: ρ) C = C (a0 :: a1 :: a2 :: some (.ow none fr d) :: ρ) := propext ⟨fun h => h.2, fun h => ⟨by simp, h⟩⟩
@[simp ↓] theorem yrs3 {a0 a1 a2 : Option Cel} {c : Cel} : res (a0 :: a1 :: a2 :: some c :: ρ) (.s 3) = c.rd := rfl
@[simp ↓] theorem yrt3 {a0 a1 a2 : Option Cel} {c : Cel} : resT (a0 :: a1 :: a2 :: some c :: ρ) (.s 3) = some c.dat := rfl
@[simp ↓] theorem yvt3 {a0 a1 a2 : Option Cel} {pp : Bool} {td : D} : pVar 3 (a0 :: a1 :: a2 :: some (.tr pp td) :: ρ) P = P (.s 3) (a0 :: a1 :: a2 :: some (.tr pp td) :: ρ) := rfl
@[simp ↓] theorem ypu3 {a0 a1 a2 : Option Cel} {pp : Bool} {td : D} : put (a0 :: a1 :: a2 :: some (.tr pp td) :: ρ) (.s 3) = (a0 :: a1 :: a2 :: some (.sh (!pp) td) :: ρ) := rfl
@[simp ↓] theorem yrf3 {a0 a1 a2 : Option Cel} {c : Cel} : resF (a0 :: a1 :: a2 :: some c :: ρ) (.s 3) = c.frs := rfl
@[simp ↓] theorem ypt3 {a0 a1 a2 : Option Cel} {k : Option Nat} {ds : List D} : put (a0 :: a1 :: a2 :: some (.ow k fr ds) :: ρ) (.s 3) = (a0 :: a1 :: a2 :: some (.sh fr (.lst ds)) :: ρ) := rfl
@[simp ↓] theorem yps3 {a0 a1 a2 : Option Cel} {d : D} : put (a0 :: a1 :: a2 :: some (.sh fr d) :: ρ) (.s 3) = (a0 :: a1 :: a2 :: some (.sh fr d) :: ρ) := rfl
@[simp] theorem ycm3 {a0 a1 a2 : Option Cel} {n : Nat} {S : Spec'} {xs : List Val} {us : List D} {k : Option Nat} {ds : List D} : kCall n (some 0) S (.s 3 :: xs) (some us) (a0 :: a1 :: a2 :: some (.ow k fr ds) :: ρ) P = (us.length = n ∧ (imms ds = true ∧ others 3 0 (.s 3 :: xs) = true) ∧ S us fun x cs => P x (a0 :: a1 :: a2 :: some (.ow k fr cs) :: ρ)) := by rw [y_kCallm (i := 3) rfl]; rfl
@[simp ↓] theorem yau3 {a0 a1 a2 : Option Cel} {d : D} {k : KO} : sAug 3 pa k E (a0 :: a1 :: a2 :: some (.sh fr d) :: ρ) = pa (a0 :: a1 :: a2 :: some (.sh fr d) :: ρ) fun y ρ1 => kAug 3 fr d k y ρ1 E.nx := rfl
@[simp ↓] theorem yak3 {a0 a1 a2 : Option Cel} {d : D} {k : KO} {y : Val} : kAug 3 fr d k y (a0 :: a1 :: a2 :: some (.sh fr d) :: ρ) C = k (.v fr d) y (a0 :: a1 :: a2 :: some (.sh fr d) :: ρ) fun z ρ2 => gN 3 z ρ2 C := propext ⟨fun h => h.2, fun h => ⟨rfl, h⟩⟩
@[simp ↓] theorem yap3 {a0 a1 a2 : Option Cel} {k : Option Nat} {ds : List D} : pAppend 3 pa (a0 :: a1 :: a2 :: some (.ow k fr ds) :: ρ) P = pa (a0 :: a1 :: a2 :: some (.ow k fr ds) :: ρ) fun y ρ1 => kApp 3 y ρ1 P := rfl
@[simp ↓] theorem yaq3 {a0 a1 a2 : Option Cel} {d : D} {k : Option Nat} {ds : List D} : kApp 3 (.v f d) (a0 :: a1 :: a2 :: some (.ow k fr ds) :: ρ) P = (ds.length < sizeLine ∧ P (.v true .non) (a0 :: a1 :: a2 :: some (.ow k (fr && f) (ds ++ [d])) :: ρ)) := rfl
@[simp ↓] theorem yar3 {a0 a1 a2 : Option Cel} {d : List D} {k : Option Nat} {ds : List D} : kApp 3 (.f f d) (a0 :: a1 :: a2 :: some (.ow k fr ds) :: ρ) P = (ds.length < sizeLine ∧ P (.v true .non) (a0 :: a1 :: a2 :: some (.ow k (fr && f) (ds ++ [.lst d])) :: ρ)) := rfl
@[simp ↓] theorem ypo3 {a0 a1 a2 : Option Cel} {k : Option Nat} {ds : List D} : pPop 3 (a0 :: a1 :: a2 :: some (.ow k fr ds) :: ρ) P = (∃ d, ds[ds.length - 1]? = some d ∧ P (.v fr d) (a0 :: a1 :: a2 :: some (.ow k fr ds.dropLast) :: ρ)) := rfl
@[simp ↓] theorem ypa3 {a0 a1 a2 : Option Cel} {k : Option Nat} {ds : List D} : pPopAt 3 pa (a0 :: a1 :: a2 :: some (.ow k fr ds) :: ρ) P = pa (a0 :: a1 :: a2 :: some (.ow k fr ds) :: ρ) fun y ρ1 => kPopAt 3 y ρ1 P := rfl
@[simp ↓] theorem ykp3 {a0 a1 a2 : Option Cel} {k : Option Nat} {ds : List D} {z : Int} : kPopAt 3 (.v g (.int z)) (a0 :: a1 :: a2 :: some (.ow k fr ds) :: ρ) P = (-(2 ^ 63) ≤ z ∧ z < 2 ^ 63 ∧ ∃ j d, ixN ds.length z = some j ∧ ds[j]? = some d ∧ P (.v fr d) (a0 :: a1 :: a2 :: some (.ow k fr (ds.eraseIdx j)) :: ρ)) := rfl
@[simp ↓] theorem yse3 {a0 a1 a2 : Option Cel} {d : D} {k : Option Nat} {ds : List D} : gSet 3 pa (.v f d) (a0 :: a1 :: a2 :: some (.ow k fr ds) :: ρ) C = pa (a0 :: a1 :: a2 :: some (.ow k fr ds) :: ρ) fun y ρ1 => kSet 3 f d y ρ1 C := rfl
@[simp ↓] theorem ysk3 {a0 a1 a2 : Option Cel} {d : D} {k : Option Nat} {ds : List D} {z : Int} : kSet 3 f d (.v g (.int z)) (a0 :: a1 :: a2 :: some (.ow k fr ds) :: ρ) C = (∃ j, ixN ds.length z = some j ∧ C (a0 :: a1 :: a2 :: some (.ow k (fr && f) (ds.set j d)) :: ρ)) := rfl
@[simp ↓] theorem yvs4 {a0 a1 a2 a3 : Option Cel} {d : D} : pVar 4 (a0 :: a1 :: a2 :: a3 :: some (.sh fr d) :: ρ) P = P (.v fr d) (a0 :: a1 :: a2 :: a3 :: some (.sh fr d) :: ρ) := rfl
@[simp ↓] theorem yvo4 {a0 a1 a2 a3 : Option Cel} {k : Option Nat} {ds : List D} : pVar 4 (a0 :: a1 :: a2 :: a3 :: some (.ow k fr ds) :: ρ) P = P (.s 4) (a0 :: a1 :: a2 :: a3 :: some (.ow k fr ds) :: ρ) := rfl
@[simp ↓] theorem ygv4 {a0 a1 a2 a3 : Option Cel} {c : Option Cel} {d : D} : gN 4 (.v fr d) (a0 :: a1 :: a2 :: a3 :: c :: ρ) C = C (a0 :: a1 :: a2 :: a3 :: some (.sh fr d) :: ρ) := propext ⟨fun h => h.2, fun h => ⟨by simp, h⟩⟩
@[simp ↓] theorem ygf4 {a0 a1 a2 a3 : Option Cel} {c : Option Cel} {d : List D} : gN 4 (.f fr d) (a0 :: a1 :: a2 :: a3 :: c :: ρ) C = C (a0 :: a1 :: a2 :: a3 :: some (.ow none fr d) :: ρ) := propext ⟨fun h => h.2, fun h => ⟨by simp, h⟩⟩
@[simp ↓] theorem yrs4 {a0 a1 a2 a3 : Option Cel} {c : Cel} : res (a0 :: a1 :: a2 :: a3 :: some c :: ρ) (.s 4) = c.rd := rfl
@[simp ↓] theorem yrt4 {a0 a1 a2 a3 : Option Cel} {c : Cel} : resT (a0 :: a1 :: a2 :: a3 :: some c :: ρ) (.s 4) = some c.dat := rfl
@[simp ↓] theorem yvt4 {a0 a1 a2 a3 : Option Cel} {pp : Bool} {td : D} : pVar 4 (a0 :: a1 :: a2 :: a3 :: some (.tr pp td) :: ρ) P = P (.s 4) (a0 :: a1 :: a2 :: a3 :: some (.tr pp td) :: ρ) := rfl
@[simp ↓] theorem ypu4 {a0 a1 a2 a3 : Option Cel} {pp : Bool} {td : D} : put (a0 :: a1 :: a2 :: a3 :: some (.tr pp td) :: ρ) (.s 4) = (a0 :: a1 :: a2 :: a3 :: some (.sh (!pp) td) :: ρ) := rfl
@[simp ↓] theorem yrf4 {a0 a1 a2 a3 : Option Cel} {c : Cel} : resF (a0 :: a1 :: a2 :: a3 :: some c :: ρ) (.s 4) = c.frs := rfl
@[simp ↓] theorem ypt4 {a0 a1 a2 a3 : Option Cel} {k : Option Nat} {ds : List D} : put (a0 :: a1 :: a2 :: a3 :: some (.ow k fr ds) :: ρ) (.s 4) = (a0 :: a1 :: a2 :: a3 :: some (.sh fr (.lst ds)) :: ρ) := rfl
@[simp ↓] theorem yps4 {a0 a1 a2 a3 : Option Cel} {d : D} : put (a0 :: a1 :: a2 :: a3 :: some (.sh fr d) :: ρ) (.s 4) = (a0 :: a1 :: a2 :: a3 :: some (.sh fr d) :: ρ) := rfl
@[simp] theorem ycm4 {a0 a1 a2 a3 : Option Cel} {n : Nat} {S : Spec'} {xs : List Val} {us : List D} {k : Option Nat} {ds : List D} : kCall n (some 0) S (.s 4 :: xs) (some us) (a0 :: a1 :: a2 :: a3 :: some (.ow k fr ds) :: ρ) P = (us.length = n ∧ (imms ds = true ∧ others 4 0 (.s 4 :: xs) = true) ∧ S us fun x cs => P x (a0 :: a1 :: a2 :: a3 :: some (.ow k fr cs) :: ρ)) := by rw [y_kCallm (i := 4) rfl]; rfl
@[simp ↓] theorem yau4 {a0 a1 a2 a3 : Option Cel} {d : D} {k : KO} : sAug 4 pa k E (a0 :: a1 :: a2 :: a3 :: some (.sh fr d) :: ρ) = pa (a0 :: a1 :: a2 :: a3 :: some (.sh fr d) :: ρ) fun y ρ1 => kAug 4 fr d k y ρ1 E.nx := rfl
@[simp ↓] theorem yak4 {a0 a1 a2 a3 : Option Cel} {d : D} {k : KO} {y : Val} : kAug 4 fr d k y (a0 :: a1 :: a2 :: a3 :: some (.sh fr d) :: ρ) C = k (.v fr d) y (a0 :: a1 :: a2 :: a3 :: some (.sh fr d) :: ρ) fun z ρ2 => gN 4 z ρ2 C := propext ⟨fun h => h.2, fun h => ⟨rfl, h⟩⟩
@[simp ↓] theorem yap4 {a0 a1 a2 a3 : Option Cel} {k : Option Nat} {ds : List D} : pAppend 4 pa (a0 :: a1 :: a2 :: a3 :: some (.ow k fr ds) :: ρ) P = pa (a0 :: a1 :: a2 :: a3 :: some (.ow k fr ds) :: ρ) fun y ρ1 => kApp 4 y ρ1 P := rfl
@[simp ↓] theorem yaq4 {a0 a1 a2 a3 : Option Cel} {d : D} {k : Option Nat} {ds : List D} : kApp 4 (.v f d) (a0 :: a1 :: a2 :: a3 :: some (.ow k fr ds) :: ρ) P = (ds.length < sizeLine ∧ P (.v true .non) (a0 :: a1 :: a2 :: a3 :: some (.ow k (fr && f) (ds ++ [d])) :: ρ)) := rfl
@[simp ↓] theorem yar4 {a0 a1 a2 a3 : Option Cel} {d : List D} {k : Option Nat} {ds : List D} : kApp 4 (.f f d) (a0 :: a1 :: a2 :: a3 :: some (.ow k fr ds) :: ρ) P = (ds.length < sizeLine ∧ P (.v true .non) (a0 :: a1 :: a2 :: a3 :: some (.ow k (fr && f) (ds ++ [.lst d])) :: ρ)) := rfl
@[simp ↓] theorem ypo4 {a0 a1 a2 a3 : Option Cel} {k : Option Nat} {ds : List D} : pPop 4 (a0 :: a1 :: a2 :: a3 :: some (.ow k fr ds) :: ρ) P = (∃ d, ds[ds.length - 1]? = some d ∧ P (.v fr d) (a0 :: a1 :: a2 :: a3 :: some (.ow k fr ds.dropLast) :: ρ)) := rfl
@[simp ↓] theorem ypa4 {a0 a1 a2 a3 : Option Cel} {k : Option Nat} {ds : List D} : pPopAt 4 pa (a0 :: a1 :: a2 :: a3 :: some (.ow k fr ds) :: ρ) P = pa (a0 :: a1 :: a2 :: a3 :: some (.ow k fr ds) :: ρ) fun y ρ1 => kPopAt 4 y ρ1 P := rfl
@[simp ↓] theorem ykp4 {a0 a1 a2 a3 : Option Cel} {k : Option Nat} {ds : List D} {z : Int} : kPopAt 4 (.v g (.int z)) (a0 :: a1 :: a2 :: a3 :: some (.ow k fr ds) :: ρ) P = (-(2 ^ 63) ≤ z ∧ z < 2 ^ 63 ∧ ∃ j d, ixN ds.length z = some j ∧ ds[j]? = some d ∧ P (.v fr d) (a0 :: a1 :: a2 :: a3 :: some (.ow k fr (ds.eraseIdx j)) :: ρ)) := rfl
@[simp ↓] theorem yse4 {a0 a1 a2 a3 : Option Cel} {d : D} {k : Option Nat} {ds : List D} : gSet 4 pa (.v f d) (a0 :: a1 :: a2 :: a3 :: some (.ow k fr ds) :: ρ) C = pa (a0 :: a1 :: a2 :: a3 :: some (.ow k fr ds) :: ρ) fun y ρ1 => kSet 4 f d y ρ1 C := rfl
@[simp ↓] theorem ysk4 {a0 a1 a2 a3 : Option Cel} {d : D} {k : Option Nat} {ds : List D} {z : Int} : kSet 4 f d (.v g (.int z)) (a0 :: a1 :: a2 :: a3 :: some (.ow k fr ds) :: ρ) C = (∃ j, ixN ds.length z = some j ∧ C (a0 :: a1 :: a2 :: a3 :: some (.ow k (fr && f) (ds.set j d)) :: ρ)) := rfl
@[simp ↓] theorem yvs5 {a0 a1 a2 a3 a4 : Option Cel} {d : D} : pVar 5 (a0 :: a1 :: a2 :: a3 :: a4 :: some (.sh fr d) :: ρ) P = P (.v fr d) (a0 :: a1 :: a2 :: a3 :: a4 :: some (.sh fr d) :: ρ) := rfl
@[simp ↓] theorem yvo5 {a0 a1 a2 a3 a4 : Option Cel} {k : Option Nat} {ds : List D} : pVar 5 (a0 :: a1 :: a2 :: a3 :: a4 :: some (.ow k fr ds) :: ρ) P = P (.s 5) (a0 :: a1 :: a2 :: a3 :: a4 :: some (.ow k fr ds) :: ρ) := rfl
@[simp ↓] theorem ygv5 {a0 a1 a2 a3 a4 : Option Cel} {c : Option Cel} {d : D} : gN 5 (.v fr d) (a0 :: a1 :: a2 :: a3 :: a4 :: c :: ρ) C = C (a0 :: a1 :: a2 :: a3 :: a4 :: some (.sh fr d) :: ρ) := propext ⟨fun h => h.2, fun h => ⟨by simp, h⟩⟩
@[simp ↓] theorem ygf5 {a0 a1 a2 a3 a4 : Option Cel} {c : Option Cel} {d : List D} : gN 5 (.f fr d) (a0 :: a1 :: a2 :: a3 :: a4 :: c :: ρ) C = C (a0 :: a1 :: a2 :: a3 :: a4 :: some (.ow none fr d) :: ρ) := propext ⟨fun h => h.2, fun h => ⟨by simp, h⟩⟩
@[simp ↓] theorem yrs5 {a0 a1 a2 a3 a4 : Option Cel} {c : Cel} : res (a0 :: a1 :: a2 :: a3 :: a4 :: some c :: ρ) (.s 5) = c.rd := rfl
@[simp ↓] theorem yrt5 {a0 a1 a2 a3 a4 : Option Cel} {c : Cel} : resT (a0 :: a1 :: a2 :: a3 :: a4 :: some c :: ρ) (.s 5) = some c.dat := rfl
@[simp ↓] theorem yvt5 {a0 a1 a2 a3 a4 : Option Cel} {pp : Bool} {td : D} : pVar 5 (a0 :: a1 :: a2 :: a3 :: a4 :: some (.tr pp td) :: ρ) P = P (.s 5) (a0 :: a1 :: a2 :: a3 :: a4 :: some (.tr pp td) :: ρ) := rfl
@[simp ↓] theorem ypu5 {a0 a1 a2 a3 a4 : Option Cel} {pp : Bool} {td : D} : put (a0 :: a1 :: a2 :: a3 :: a4 :: some (.tr pp td) :: ρ) (.s 5) = (a0 :: a1 :: a2 :: a3 :: a4 :: some (.sh (!pp) td) :: ρ) := rfl
@[simp ↓] theorem yrf5 {a0 a1 a2 a3 a4 : Option Cel} {c : Cel} : resF (a0 :: a1 :: a2 :: a3 :: a4 :: some c :: ρ) (.s 5) = c.frs := rfl
@[simp ↓] theorem ypt5 {a0 a1 a2 a3 a4 : Option Cel} {k : Option Nat} {ds : List D} : put (a0 :: a1 :: a2 :: a3 :: a4 :: some (.ow k fr ds) :: ρ) (.s 5) = (a0 :: a1 :: a2 :: a3 :: a4 :: some (.sh fr (.lst ds)) :: ρ) := rfl
@[simp ↓] theorem yps5 {a0 a1 a2 a3 a4 : Option Cel} {d : D} : put (a0 :: a1 :: a2 :: a3 :: a4 :: some (.sh fr d) :: ρ) (.s 5) = (a0 :: a1 :: a2 :: a3 :: a4 :: some (.sh fr d) :: ρ) := rfl
@[simp] theorem ycm5 {a0 a1 a2 a3 a4 : Option Cel} {n : Nat} {S : Spec'} {xs : List Val} {us : List D} {k : Option Nat} {ds : List D} : kCall n (some 0) S (.s 5 :: xs) (some us) (a0 :: a1 :: a2 :: a3 :: a4 :: some (.ow k fr ds) :: ρ) P = (us.length = n ∧ (imms ds = true ∧ others 5 0 (.s 5 :: xs) = true) ∧ S us fun x cs => P x (a0 :: a1 :: a2 :: a3 :: a4 :: some (.ow k fr cs) :: ρ)) := by rw [y_kCallm (i := 5) rfl]; rfl
@[simp ↓] theorem yau5 {a0 a1 a2 a3 a4 : Option Cel} {d : D} {k : KO} : sAug 5 pa k E (a0 :: a1 :: a2 :: a3 :: a4 :: some (.sh fr d) :: ρ) = pa (a0 :: a1 :: a2 :: a3 :: a4 :: some (.sh fr d) :: ρ) fun y ρ1 => kAug 5 fr d k y ρ1 E.nx := rfl
@[simp ↓] theorem yak5 {a0 a1 a2 a3 a4 : Option Cel} {d : D} {k : KO} {y : Val} : kAug 5 fr d k y (a0 :: a1 :: a2 :: a3 :: a4 :: some (.sh fr d) :: ρ) C = k (.v fr d) y (a0 :: a1 :: a2 :: a3 :: a4 :: some (.sh fr d) :: ρ) fun z ρ2 => gN 5 z ρ2 C := propext ⟨fun h => h.2, fun h => ⟨rfl, h⟩⟩
@[simp ↓] theorem yap5 {a0 a1 a2 a3 a4 : Option Cel} {k : Option Nat} {ds : List D} : pAppend 5 pa (a0 :: a1 :: a2 :: a3 :: a4 :: some (.ow k fr ds) :: ρ) P = pa (a0 :: a1 :: a2 :: a3 :: a4 :: some (.ow k fr ds) :: ρ) fun y ρ1 => kApp 5 y ρ1 P := rfl
@[simp ↓] theorem yaq5 {a0 a1 a2 a3 a4 : Option Cel} {d : D} {k : Option Nat} {ds : List D} : kApp 5 (.v f d) (a0 :: a1 :: a2 :: a3 :: a4 :: some (.ow k fr ds) :: ρ) P = (ds.length < sizeLine ∧ P (.v true .non) (a0 :: a1 :: a2 :: a3 :: a4 :: some (.ow k (fr && f) (ds ++ [d])) :: ρ)) := rfl
@[simp ↓] theorem yar5 {a0 a1 a2 a3 a4 : Option Cel} {d : List D} {k : Option Nat} {ds : List D} : kApp 5 (.f f d) (a0 :: a1 :: a2 :: a3 :: a4 :: some (.ow k fr ds) :: ρ) P = (ds.length < sizeLine ∧ P (.v true .non) (a0 :: a1 :: a2 :: a3 :: a4 :: some (.ow k (fr && f) (ds ++ [.lst d])) :: ρ)) := rfl
@[simp ↓] theorem ypo5 {a0 a1 a2 a3 a4 : Option Cel} {k : Option Nat} {ds : List D} : pPop 5 (a0 :: a1 :: a2 :: a3 :: a4 :: some (.ow k fr ds) :: ρ) P = (∃ d, ds[ds.length - 1]? = some d ∧ P (.v fr d) (a0 :: a1 :: a2 :: a3 :: a4 :: some (.ow k fr ds.dropLast) :: ρ)) := rfl
@[simp ↓] theorem ypa5 {a0 a1 a2 a3 a4 : Option Cel} {k : Option Nat} {ds : List D} : pPopAt 5 pa (a0 :: a1 :: a2 :: a3 :: a4 :: some (.ow k fr ds) :: ρ) P = pa (a0 :: a1 :: a2 :: a3 :: a4 :: some (.ow k fr ds) :: ρ) fun y ρ1 => kPopAt 5 y ρ1 P := rfl
@[simp ↓] theorem ykp5 {a0 a1 a2 a3 a4 : Option Cel} {k : Option Nat} {ds : List D} {z : Int} : kPopAt 5 (.v g (.int z)) (a0 :: a1 :: a2 :: a3 :: a4 :: some (.ow k fr ds) :: ρ) P = (-(2 ^ 63) ≤ z ∧ z < 2 ^ 63 ∧ ∃ j d, ixN ds.length z = some j ∧ ds[j]? = some d ∧ P (.v fr d) (a0 :: a1 :: a2 :: a3 :: a4 :: some (.ow k fr (ds.eraseIdx j)) :: ρ)) := rfl
@[simp ↓] theorem yse5 {a0 a1 a2 a3 a4 : Option Cel} {d : D} {k : Option Nat} {ds : List D} : gSet 5 pa (.v f d) (a0 :: a1 :: a2 :: a3 :: a4 :: some (.ow k fr ds) :: ρ) C = pa (a0 :: a1 :: a2 :: a3 :: a4 :: some (.ow k fr ds) :: ρ) fun y ρ1 => kSet 5 f d y ρ1 C := rfl
@[simp ↓] theorem ysk5 {a0 a1 a2 a3 a4 : Option Cel} {d : D} {k : Option Nat} {ds : List D} {z : Int} : kSet 5 f d (.v g (.int z)) (a0 :: a1 :: a2 :: a3 :: a4 :: some (.ow k fr ds) :: ρ) C = (∃ j, ixN ds.length z = some j ∧ C (a0 :: a1 :: a2 :: a3 :: a4 :: some (.ow k (fr && f) (ds.set j d)) :: ρ)) := rfl
@[simp ↓] theorem yvs6 {a0 a1 a2 a3 a4 a5 : Option Cel} {d : D} : pVar 6 (a0 :: a1 :: a2 :: a3 :: a4 :: a5 :: some (.sh fr d) :: ρ) P = P (.v fr d) (a0 :: a1 :: a2 :: a3 :: a4 :: a5 :: some (.sh fr d) :: ρ) := rfl
@[simp ↓] theorem yvo6 {a0 a1 a2 a3 a4 a5 : Option Cel} {k : Option Nat} {ds : List D} : pVar 6 (a0 :: a1 :: a2 :: a3 :: a4 :: a5 :: some (.ow k fr ds) :: ρ) P = P (.s 6) (a0 :: a1 :: a2 :: a3 :: a4 :: a5 :: some (.ow k fr ds) :: ρ) := rfl
@[simp ↓] theorem ygv6 {a0 a1 a2 a3 a4 a5 : Option Cel} {c : Option Cel} {d : D} : gN 6 (.v fr d) (a0 :: a1 :: a2 :: a3 :: a4 :: a5 :: c :: ρ) C = C (a0 :: a1 :: a2 :: a3 :: a4 :: a5 :: some (.sh fr d) :: ρ) := propext ⟨fun h => h.2, fun h => ⟨by simp, h⟩⟩
@[simp ↓] theorem ygf6 {a0 a1 a2 a3 a4 a5 : Option Cel} {c : Option Cel} {d : List D} : gN 6 (.f fr d) (a0 :: a1 :: a2 :: a3 :: a4 :: a5 :: c :: ρ) C = C (a0 :: a1 :: a2 :: a3 :: a4 :: a5 :: some (.ow none fr d) :: ρ) := propext ⟨fun h => h.2, fun h => ⟨by simp, h⟩⟩
@[simp ↓] theorem yrs6 {a0 a1 a2 a3 a4 a5 : Option Cel} {c : Cel} : res (a0 :: a1 :: a2 :: a3 :: a4 :: a5 :: some c :: ρ) (.s 6) = c.rd := rfl
@[simp ↓] theorem yrt6 {a0 a1 a2 a3 a4 a5 : Option Cel} {c : Cel} : resT (a0 :: a1 :: a2 :: a3 :: a4 :: a5 :: some c :: ρ) (.s 6) = some c.dat := rfl
@[simp ↓] theorem yvt6 {a0 a1 a2 a3 a4 a5 : Option Cel} {pp : Bool} {td : D} : pVar 6 (a0 :: a1 :: a2 :: a3 :: a4 :: a5 :: some (.tr pp td) :: ρ) P = P (.s 6) (a0 :: a1 :: a2 :: a3 :: a4 :: a5 :: some (.tr pp td) :: ρ) := rfl
@[simp ↓] theorem ypu6 {a0 a1 a2 a3 a4 a5 : Option Cel} {pp : Bool} {td : D} : put (a0 :: a1 :: a2 :: a3 :: a4 :: a5 :: some (.tr pp td) :: ρ) (.s 6) = (a0 :: a1 :: a2 :: a3 :: a4 :: a5 :: some (.sh (!pp) td) :: ρ) := rfl
@[simp ↓] theorem yrf6 {a0 a1 a2 a3 a4 a5 : Option Cel} {c : Cel} : resF (a0 :: a1 :: a2 :: a3 :: a4 :: a5 :: some c :: ρ) (.s 6) = c.frs := rfl
@[simp ↓] theorem ypt6 {a0 a1 a2 a3 a4 a5 : Option Cel} {k : Option Nat} {ds : List D} : put (a0 :: a1 :: a2 :: a3 :: a4 :: a5 :: some (.ow k fr ds) :: ρ) (.s 6) = (a0 :: a1 :: a2 :: a3 :: a4 :: a5 :: some (.sh fr (.lst ds)) :: ρ) := rfl
@[simp ↓] theorem yps6 {a0 a1 a2 a3 a4 a5 : Option Cel} {d : D} : put (a0 :: a1 :: a2 :: a3 :: a4 :: a5 :: some (.sh fr d) :: ρ) (.s 6) = (a0 :: a1 :: a2 :: a3 :: a4 :: a5 :: some (.sh fr d) :: ρ) := rfl
@[simp] theorem ycm6 {a0 a1 a2 a3 a4 a5 : Option Cel} {n : Nat} {S : Spec'} {xs : List Val} {us : List D} {k : Option Nat} {ds : List D} : kCall n (some 0) S (.s 6 :: xs) (some us) (a0 :: a1 :: a2 :: a3 :: a4 :: a5 :: some (.ow k fr ds) :: ρ) P = (us.length = n ∧ (imms ds = true ∧ others 6 0 (.s 6 :: xs) = true) ∧ S us fun x cs => P x (a0 :: a1 :: a2 :: a3 :: a4 :: a5 :: some (.ow k fr cs) :: ρ)) := by rw [y_kCallm (i := 6) rfl]; rfl
@[simp ↓] theorem yau6 {a0 a1 a2 a3 a4 a5 : Option Cel} {d : D} {k : KO} : sAug 6 pa k E (a0 :: a1 :: a2 :: a3 :: a4 :: a5 :: some (.sh fr d) :: ρ) = pa (a0 :: a1 :: a2 :: a3 :: a4 :: a5 :: some (.sh fr d) :: ρ) fun y ρ1 => kAug 6 fr d k y ρ1 E.nx := rfl
@[simp ↓] theorem yak6 {a0 a1 a2 a3 a4 a5 : Option Cel} {d : D} {k : KO} {y : Val} : kAug 6 fr d k y (a0 :: a1 :: a2 :: a3 :: a4 :: a5 :: some (.sh fr d) :: ρ) C = k (.v fr d) y (a0 :: a1 :: a2 :: a3 :: a4 :: a5 :: some (.sh fr d) :: ρ) fun z ρ2 => gN 6 z ρ2 C := propext ⟨fun h => h.2, fun h => ⟨rfl, h⟩⟩
@[simp ↓] theorem yap6 {a0 a1 a2 a3 a4 a5 : Option Cel} {k : Option Nat} {ds : List D} : pAppend 6 pa (a0 :: a1 :: a2 :: a3 :: a4 :: a5 :: some (.ow k fr ds) :: ρ) P = pa (a0 :: a1 :: a2 :: a3 :: a4 :: a5 :: some (.ow k fr ds) :: ρ) fun y ρ1 => kApp 6 y ρ1 P := rfl
@[simp ↓] theorem yaq6 {a0 a1 a2 a3 a4 a5 : Option Cel} {d : D} {k : Option Nat} {ds : List D} : kApp 6 (.v f d) (a0 :: a1 :: a2 :: a3 :: a4 :: a5 :: some (.ow k fr ds) :: ρ) P = (ds.length < sizeLine ∧ P (.v true .non) (a0 :: a1 :: a2 :: a3 :: a4 :: a5 :: some (.ow k (fr && f) (ds ++ [d])) :: ρ)) := rfl
@[simp ↓] theorem yar6 {a0 a1 a2 a3 a4 a5 : Option Cel} {d : List D} {k : Option Nat} {ds : List D} : kApp 6 (.f f d) (a0 :: a1 :: a2 :: a3 :: a4 :: a5 :: some (.ow k fr ds) :: ρ) P = (ds.length < sizeLine ∧ P (.v true .non) (a0 :: a1 :: a2 :: a3 :: a4 :: a5 :: some (.ow k (fr && f) (ds ++ [.lst d])) :: ρ)) := rfl
@[simp ↓] theorem ypo6 {a0 a1 a2 a3 a4 a5 : Option Cel} {k : Option Nat} {ds : List D} : pPop 6 (a0 :: a1 :: a2 :: a3 :: a4 :: a5 :: some (.ow k fr ds) :: ρ) P = (∃ d, ds[ds.length - 1]? = some d ∧ P (.v fr d) (a0 :: a1 :: a2 :: a3 :: a4 :: a5 :: some (.ow k fr ds.dropLast) :: ρ)) := rfl
@[simp ↓] theorem ypa6 {a0 a1 a2 a3 a4 a5 : Option Cel} {k : Option Nat} {ds : List D} : pPopAt 6 pa (a0 :: a1 :: a2 :: a3 :: a4 :: a5 :: some (.ow k fr ds) :: ρ) P = pa (a0 :: a1 :: a2 :: a3 :: a4 :: a5 :: some (.ow k fr ds) :: ρ) fun y ρ1 => kPopAt 6 y ρ1 P := rfl
@[simp ↓] theorem ykp6 {a0 a1 a2 a3 a4 a5 : Option Cel} {k : Option Nat} {ds : List D} {z : Int} : kPopAt 6 (.v g (.int z)) (a0 :: a1 :: a2 :: a3 :: a4 :: a5 :: some (.ow k fr ds) :: ρ) P = (-(2 ^ 63) ≤ z ∧ z < 2 ^ 63 ∧ ∃ j d, ixN ds.length z = some j ∧ ds[j]? = some d ∧ P (.v fr d) (a0 :: a1 :: a2 :: a3 :: a4 :: a5 :: some (.ow k fr (ds.eraseIdx j)) :: ρ)) := rfl
@[simp ↓] theorem yse6 {a0 a1 a2 a3 a4 a5 : Option Cel} {d : D} {k : Option Nat} {ds : List D} : gSet 6 pa (.v f d) (a0 :: a1 :: a2 :: a3 :: a4 :: a5 :: some (.ow k fr ds) :: ρ) C = pa (a0 :: a1 :: a2 :: a3 :: a4 :: a5 :: some (.ow k fr ds) :: ρ) fun y ρ1 => kSet 6 f d y ρ1 C := rfl
@[simp ↓] theorem ysk6 {a0 a1 a2 a3 a4 a5 : Option Cel} {d : D} {k : Option Nat} {ds : List D} {z : Int} : kSet 6 f d (.v g (.int z)) (a0 :: a1 :: a2 :: a3 :: a4 :: a5 :: some (.ow k fr ds) :: ρ) C = (∃ j, ixN ds.length z = some j ∧ C (a0 :: a1 :: a2 :: a3 :: a4 :: a5 :: some (.ow k (fr && f) (ds.set j d)) :: ρ)) := rfl
@[simp ↓] theorem yvs7 {a0 a1 a2 a3 a4 a5 a6 : Option Cel} {d : D} : pVar 7 (a0 :: a1 :: a2 :: a3 :: a4 :: a5 :: a6 :: some (.sh fr d) :: ρ) P = P (.v fr d) (a0 :: a1 :: a2 :: a3 :: a4 :: a5 :: a6 :: some (.sh fr d) :: ρ) := rfl
@[simp ↓] theorem yvo7 {a0 a1 a2 a3 a4 a5 a6 : Option Cel} {k : Option Nat} {ds : List D} : pVar 7 (a0 :: a1 :: a2 :: a3 :: a4 :: a5 :: a6 :: some (.ow k fr ds) :: ρ) P = P (.s 7) (a0 :: a1 :: a2 :: a3 :: a4 :: a5 :: a6 :: some (.ow k fr ds) :: ρ) := rfl
@[simp ↓] theorem ygv7 {a0 a1 a2 a3 a4 a5 a6 : Option Cel} {c : Option Cel} {d : D} : gN 7 (.v fr d) (a0 :: a1 :: a2 :: a3 :: a4 :: a5 :: a6 :: c :: ρ) C = C (a0 :: a1 :: a2 :: a3 :: a4 :: a5 :: a6 :: some (.sh fr d) :: ρ) := propext ⟨fun h => h.2, fun h => ⟨by simp, h⟩⟩
@[simp ↓] theorem ygf7 {a0 a1 a2 a3 a4 a5 a6 : Option Cel} {c : Option Cel} {d : List D} : gN 7 (.f fr d) (a0 :: a1 :: a2 :: a3 :: a4 :: a5 :: a6 :: c :: ρ) C = C (a0 :: a1 :: a2 :: a3 :: a4 :: a5 :: a6 :: some (.ow none fr d) :: ρ) := propext ⟨fun h => h.2, fun h => ⟨by simp, h⟩⟩
@[simp ↓] theorem yrs7 {a0 a1 a2 a3 a4 a5 a6 : Option Cel} {c : Cel} : res (a0 :: a1 :: a2 :: a3 :: a4 :: a5 :: a6 :: some c :: ρ) (.s 7) = c.rd := rfl
@[simp ↓] theorem yrt7 {a0 a1 a2 a3 a4 a5 a6 : Option Cel} {c : Cel} : resT (a0 :: a1 :: a2 :: a3 :: a4 :: a5 :: a6 :: some c :: ρ) (.s 7) = some c.dat := rfl
@[simp ↓] theorem yvt7 {a0 a1 a2 a3 a4 a5 a6 : Option Cel} {pp : Bool} {td : D} : pVar 7 (a0 :: a1 :: a2 :: a3 :: a4 :: a5 :: a6 :: some (.tr pp td) :: ρ) P = P (.s 7) (a0 :: a1 :: a2 :: a3 :: a4 :: a5 :: a6 :: some (.tr pp td) :: ρ) := rfl
@[simp ↓] theorem ypu7 {a0 a1 a2 a3 a4 a5 a6 : Option Cel} {pp : Bool} {td : D} : put (a0 :: a1 :: a2 :: a3 :: a4 :: a5 :: a6 :: some (.tr pp td) :: ρ) (.s 7) = (a0 :: a1 :: a2 :: a3 :: a4 :: a5 :: a6 :: some (.sh (!pp) td) :: ρ) := rfl
@[simp ↓] theorem yrf7 {a0 a1 a2 a3 a4 a5 a6 : Option Cel} {c : Cel} : resF (a0 :: a1 :: a2 :: a3 :: a4 :: a5 :: a6 :: some c :: ρ) (.s 7) = c.frs := rfl
@[simp ↓] theorem ypt7 {a0 a1 a2 a3 a4 a5 a6 : Option Cel} {k : Option Nat} {ds : List D} : put (a0 :: a1 :: a2 :: a3 :: a4 :: a5 :: a6 :: some (.ow k fr ds) :: ρ) (.s 7) = (a0 :: a1 :: a2 :: a3 :: a4 :: a5 :: a6 :: some (.sh fr (.lst ds)) :: ρ) := rfl
@[simp ↓] theorem yps7 {a0 a1 a2 a3 a4 a5 a6 : Option Cel} {d : D} : put (a0 :: a1 :: a2 :: a3 :: a4 :: a5 :: a6 :: some (.sh fr d) :: ρ) (.s 7) = (a0 :: a1 :: a2 :: a3 :: a4 :: a5 :: a6 :: some (.sh fr d) :: ρ) := rfl
@[simp] theorem ycm7 {a0 a1 a2 a3 a4 a5 a6 : Option Cel} {n : Nat} {S : Spec'} {xs : List Val} {us : List D} {k : Option Nat} {ds : List D} : kCall n (some 0) S (.s 7 :: xs) (some us) (a0 :: a1 :: a2 :: a3 :: a4 :: a5 :: a6 :: some (.ow k fr ds) :: ρ) P = (us.length = n ∧ (imms ds = true ∧ others 7 0 (.s 7 :: xs) = true) ∧ S us fun x cs => P x (a0 :: a1 :: a2 :: a3 :: a4 :: a5 :: a6 :: some (.ow k fr cs) :: ρ)) := by rw [y_kCallm (i := 7) rfl]; rfl
@[simp ↓] theorem yau7 {a0 a1 a2 a3 a4 a5 a6 : Option Cel} {d : D} {k : KO} : sAug 7 pa k E (a0 :: a1 :: a2 :: a3 :: a4 :: a5 :: a6 :: some (.sh fr d) :: ρ) = pa (a0 :: a1 :: a2 :: a3 :: a4 :: a5 :: a6 :: some (.sh fr d) :: ρ) fun y ρ1 => kAug 7 fr d k y ρ1 E.nx := rfl
@[simp ↓] theorem yak7 {a0 a1 a2 a3 a4 a5 a6 : Option Cel} {d : D} {k : KO} {y : Val} : kAug 7 fr d k y (a0 :: a1 :: a2 :: a3 :: a4 :: a5 :: a6 :: some (.sh fr d) :: ρ) C = k (.v fr d) y (a0 :: a1 :: a2 :: a3 :: a4 :: a5 :: a6 :: some (.sh fr d) :: ρ) fun z ρ2 => gN 7 z ρ2 C := propext ⟨fun h => h.2, fun h => ⟨rfl, h⟩⟩
@[simp ↓] theorem yap7 {a0 a1 a2 a3 a4 a5 a6 : Option Cel} {k : Option Nat} {ds : List D} : pAppend 7 pa (a0 :: a1 :: a2 :: a3 :: a4 :: a5 :: a6 :: some (.ow k fr ds) :: ρ) P = pa (a0 :: a1 :: a2 :: a3 :: a4 :: a5 :: a6 :: some (.ow k fr ds) :: ρ) fun y ρ1 => kApp 7 y ρ1 P := rfl
@[simp ↓] theorem yaq7 {a0 a1 a2 a3 a4 a5 a6 : Option Cel} {d : D} {k : Option Nat} {ds : List D} : kApp 7 (.v f d) (a0 :: a1 :: a2 :: a3 :: a4 :: a5 :: a6 :: some (.ow k fr ds) :: ρ) P = (ds.length < sizeLine ∧ P (.v true .non) (a0 :: a1 :: a2 :: a3 :: a4 :: a5 :: a6 :: some (.ow k (fr && f) (ds ++ [d])) :: ρ)) := rfl
@[simp ↓] theorem yar7 {a0 a1 a2 a3 a4 a5 a6 : Option Cel} {d : List D} {k : Option Nat} {ds : List D} : kApp 7 (.f f d) (a0 :: a1 :: a2 :: a3 :: a4 :: a5 :: a6 :: some (.ow k fr ds) :: ρ) P = (ds.length < sizeLine ∧ P (.v true .non) (a0 :: a1 :: a2 :: a3 :: a4 :: a5 :: a6 :: some (.ow k (fr && f) (ds ++ [.lst d])) :: ρ)) := rfl
@[simp ↓] theorem ypo7 {a0 a1 a2 a3 a4 a5 a6 : Option Cel} {k : Option Nat} {ds : List D} : pPop 7 (a0 :: a1 :: a2 :: a3 :: a4 :: a5 :: a6 :: some (.ow k fr ds) :: ρ) P = (∃ d, ds[ds.length - 1]? = some d ∧ P (.v fr d) (a0 :: a1 :: a2 :: a3 :: a4 :: a5 :: a6 :: some (.ow k fr ds.dropLast) :: ρ)) := rfl
@[simp ↓] theorem ypa7 {a0 a1 a2 a3 a4 a5 a6 : Option Cel} {k : Option Nat} {ds : List D} : pPopAt 7 pa (a0 :: a1 :: a2 :: a3 :: a4 :: a5 :: a6 :: some (.ow k fr ds) :: ρ) P = pa (a0 :: a1 :: a2 :: a3 :: a4 :: a5 :: a6 :: some (.ow k fr ds) :: ρ) fun y ρ1 => kPopAt 7 y ρ1 P := rfl
@[simp ↓] theorem ykp7 {a0 a1 a2 a3 a4 a5 a6 : Option Cel} {k : Option Nat} {ds : List D} {z : Int} : kPopAt 7 (.v g (.int z)) (a0 :: a1 :: a2 :: a3 :: a4 :: a5 :: a6 :: some (.ow k fr ds) :: ρ) P = (-(2 ^ 63) ≤ z ∧ z < 2 ^ 63 ∧ ∃ j d, ixN ds.length z = some j ∧ ds[j]? = some d ∧ P (.v fr d) (a0 :: a1 :: a2 :: a3 :: a4 :: a5 :: a6 :: some (.ow k fr (ds.eraseIdx j)) :: ρ)) := rfl
@[simp ↓] theorem yse7 {a0 a1 a2 a3 a4 a5 a6 : Option Cel} {d : D} {k : Option Nat} {ds : List D} : gSet 7 pa (.v f d) (a0 :: a1 :: a2 :: a3 :: a4 :: a5 :: a6 :: some (.ow k fr ds) :: ρ) C = pa (a0 :: a1 :: a2 :: a3 :: a4 :: a5 :: a6 :: some (.ow k fr ds) :: ρ) fun y ρ1 => kSet 7 f d y ρ1 C := rfl
@[simp ↓] theorem ysk7 {a0 a1 a2 a3 a4 a5 a6 : Option Cel} {d : D} {k : Option Nat} {ds : List D} {z : Int} : kSet 7 f d (.v g (.int z)) (a0 :: a1 :: a2 :: a3 :: a4 :: a5 :: a6 :: some (.ow k fr ds) :: ρ) C = (∃ j, ixN ds.length z = some j ∧ C (a0 :: a1 :: a2 :: a3 :: a4 :: a5 :: a6 :: some (.ow k (fr && f) (ds.set j d)) :: ρ)) := rfl
@[simp ↓] theorem yvs8 {a0 a1 a2 a3 a4 a5 a6 a7 : Option Cel} {d : D} : pVar 8 (a0 :: a1 :: a2 :: a3 :: a4 :: a5 :: a6 :: a7 :: some (.sh fr d) :: ρ) P = P (.v fr d) (a0 :: a1 :: a2 :: a3 :: a4 :: a5 :: a6 :: a7 :: some (.sh fr d) :: ρ) := rfl
@[simp ↓] theorem yvo8 {a0 a1 a2 a3 a4 a5 a6 a7 : Option Cel} {k : Option Nat} {ds : List D} : pVar 8 (a0 :: a1 :: a2 :: a3 :: a4 :: a5 :: a6 :: a7 :: some (.ow k fr ds) :: ρ) P = P (.s 8) (a0 :: a1 :: a2 :: a3 :: a4 :: a5 :: a6 :: a7 :: some (.ow k fr ds) :: ρ) := rfl
@[simp ↓] theorem ygv8 {a0 a1 a2 a3 a4 a5 a6 a7 : Option Cel} {c : Option Cel} {d : D} : gN 8 (.v fr d) (a0 :: a1 :: a2 :: a3 :: a4 :: a5 :: a6 :: a7 :: c :: ρ) C = C (a0 :: a1 :: a2 :: a3 :: a4 :: a5 :: a6 :: a7 :: some (.sh fr d) :: ρ) := propext ⟨fun h => h.2, fun h => ⟨by simp, h⟩⟩
@[simp ↓] theorem ygf8 {a0 a1 a2 a3 a4 a5 a6 a7 : Option Cel} {c : Option Cel} {d : List D} : gN 8 (.f fr d) (a0 :: a1 :: a2 :: a3 :: a4 :: a5 :: a6 :: a7 :: c :: ρ) C = C (a0 :: a1 :: a2 :: a3 :: a4 :: a5 :: a6 :: a7 :: some (.ow none fr d) :: ρ) := propext ⟨fun h => h.2, fun h => ⟨by simp, h⟩⟩
@[simp ↓] theorem yrs8 {a0 a1 a2 a3 a4 a5 a6 a7 : Option Cel} {c : Cel} : res (a0 :: a1 :: a2 :: a3 :: a4 :: a5 :: a6 :: a7 :: some c :: ρ) (.s 8) = c.rd := rfl
@[simp ↓] theorem yrt8 {a0 a1 a2 a3 a4 a5 a6 a7 : Option Cel} {c : Cel} : resT (a0 :: a1 :: a2 :: a3 :: a4 :: a5 :: a6 :: a7 :: some c :: ρ) (.s 8) = some c.dat := rfl
@[simp ↓] theorem yvt8 {a0 a1 a2 a3 a4 a5 a6 a7 : Option Cel} {pp : Bool} {td : D} : pVar 8 (a0 :: a1 :: a2 :: a3 :: a4 :: a5 :: a6 :: a7 :: some (.tr pp td) :: ρ) P = P (.s 8) (a0 :: a1 :: a2 :: a3 :: a4 :: a5 :: a6 :: a7 :: some (.tr pp td) :: ρ) := rfl
@[simp ↓] theorem ypu8 {a0 a1 a2 a3 a4 a5 a6 a7 : Option Cel} {pp : Bool} {td : D} : put (a0 :: a1 :: a2 :: a3 :: a4 :: a5 :: a6 :: a7 :: some (.tr pp td) :: ρ) (.s 8) = (a0 :: a1 :: a2 :: a3 :: a4 :: a5 :: a6 :: a7 :: some (.sh (!pp) td) :: ρ) := rfl
@[simp ↓] theorem yrf8 {a0 a1 a2 a3 a4 a5 a6 a7 : Option Cel} {c : Cel} : resF (a0 :: a1 :: a2 :: a3 :: a4 :: a5 :: a6 :: a7 :: some c :: ρ) (.s 8) = c.frs := rfl
@[simp ↓] theorem ypt8 {a0 a1 a2 a3 a4 a5 a6 a7 : Option Cel} {k : Option Nat} {ds : List D} : put (a0 :: a1 :: a2 :: a3 :: a4 :: a5 :: a6 :: a7 :: some (.ow k fr ds) :: ρ) (.s 8) = (a0 :: a1 :: a2 :: a3 :: a4 :: a5 :: a6 :: a7 :: some (.sh fr (.lst ds)) :: ρ) := rfl
@[simp ↓] theorem yps8 {a0 a1 a2 a3 a4 a5 a6 a7 : Option Cel} {d : D} : put (a0 :: a1 :: a2 :: a3 :: a4 :: a5 :: a6 :: a7 :: some (.sh fr d) :: ρ) (.s 8) = (a0 :: a1 :: a2 :: a3 :: a4 :: a5 :: a6 :: a7 :: some (.sh fr d) :: ρ) := rfl
@[simp] theorem ycm8 {a0 a1 a2 a3 a4 a5 a6 a7 : Option Cel} {n : Nat} {S : Spec'} {xs : List Val} {us : List D} {k : Option Nat} {ds : List D} : kCall n (some 0) S (.s 8 :: xs) (some us) (a0 :: a1 :: a2 :: a3 :: a4 :: a5 :: a6 :: a7 :: some (.ow k fr ds) :: ρ) P = (us.length = n ∧ (imms ds = true ∧ others 8 0 (.s 8 :: xs) = true) ∧ S us fun x cs => P x (a0 :: a1 :: a2 :: a3 :: a4 :: a5 :: a6 :: a7 :: some (.ow k fr cs) :: ρ)) := by rw [y_kCallm (i := 8) rfl]; rfl
@[simp ↓] theorem yau8 {a0 a1 a2 a3 a4 a5 a6 a7 : Option Cel} {d : D} {k : KO} : sAug 8 pa k E (a0 :: a1 :: a2 :: a3 :: a4 :: a5 :: a6 :: a7 :: some (.sh fr d) :: ρ) = pa (a0 :: a1 :: a2 :: a3 :: a4 :: a5 :: a6 :: a7 :: some (.sh fr d) :: ρ) fun y ρ1 => kAug 8 fr d k y ρ1 E.nx := rfl
@[simp ↓] theorem yak8 {a0 a1 a2 a3 a4 a5 a6 a7 : Option Cel} {d : D} {k : KO} {y : Val} : kAug 8 fr d k y (a0 :: a1 :: a2 :: a3 :: a4 :: a5 :: a6 :: a7 :: some (.sh fr d) :: ρ) C = k (.v fr d) y (a0 :: a1 :: a2 :: a3 :: a4 :: a5 :: a6 :: a7 :: some (.sh fr d) :: ρ) fun z ρ2 => gN 8 z ρ2 C := propext ⟨fun h => h.2, fun h => ⟨rfl, h⟩⟩
@[simp ↓] theorem yap8 {a0 a1 a2 a3 a4 a5 a6 a7 : Option Cel} {k : Option Nat} {ds : List D} : pAppend 8 pa (a0 :: a1 :: a2 :: a3 :: a4 :: a5 :: a6 :: a7 :: some (.ow k fr ds) :: ρ) P = pa (a0 :: a1 :: a2 :: a3 :: a4 :: a5 :: a6 :: a7 :: some (.ow k fr ds) :: ρ) fun y ρ1 => kApp 8 y ρ1 P := rfl
@[simp ↓] theorem yaq8 {a0 a1 a2 a3 a4 a5 a6 a7 : Option Cel} {d : D} {k : Option Nat} {ds : List D} : kApp 8 (.v f d) (a0 :: a1 :: a2 :: a3 :: a4 :: a5 :: a6 :: a7 :: some (.ow k fr ds) :: ρ) P = (ds.length < sizeLine ∧ P (.v true .non) (a0 :: a1 :: a2 :: a3 :: a4 :: a5 :: a6 :: a7 :: some (.ow k (fr && f) (ds ++ [d])) :: ρ)) := rfl
@[simp ↓] theorem yar8 {a0 a1 a2 a3 a4 a5 a6 a7 : Option Cel} {d : List D} {k : Option Nat} {ds : List D} : kApp 8 (.f f d) (a0 :: a1 :: a2 :: a3 :: a4 :: a5 :: a6 :: a7 :: some (.ow k fr ds) :: ρ) P = (ds.length < sizeLine ∧ P (.v true .non) (a0 :: a1 :: a2 :: a3 :: a4 :: a5 :: a6 :: a7 :: some (.ow k (fr && f) (ds ++ [.lst d])) :: ρ)) := rfl
@[simp ↓] theorem ypo8 {a0 a1 a2 a3 a4 a5 a6 a7 : Option Cel} {k : Option Nat} {ds : List D} : pPop 8 (a0 :: a1 :: a2 :: a3 :: a4 :: a5 :: a6 :: a7 :: some (.ow k fr ds) :: ρ) P = (∃ d, ds[ds.length - 1]? = some d ∧ P (.v fr d) (a0 :: a1 :: a2 :: a3 :: a4 :: a5 :: a6 :: a7 :: some (.ow k fr ds.dropLast) :: ρ)) := rfl
@[simp ↓] theorem ypa8 {a0 a1 a2 a3 a4 a5 a6 a7 : Option Cel} {k : Option Nat} {ds : List D} : pPopAt 8 pa (a0 :: a1 :: a2 :: a3 :: a4 :: a5 :: a6 :: a7 :: some (.ow k fr ds) :: ρ) P = pa (a0 :: a1 :: a2 :: a3 :: a4 :: a5 :: a6 :: a7 :: some (.ow k fr ds) :: ρ) fun y ρ1 => kPopAt 8 y ρ1 P := rfl
@[simp ↓] theorem ykp8 {a0 a1 a2 a3 a4 a5 a6 a7 : Option Cel} {k : Option Nat} {ds : List D} {z : Int} : kPopAt 8 (.v g (.int z)) (a0 :: a1 :: a2 :: a3 :: a4 :: a5 :: a6 :: a7 :: some (.ow k fr ds) :: ρ) P = (-(2 ^ 63) ≤ z ∧ z < 2 ^ 63 ∧ ∃ j d, ixN ds.length z = some j ∧ ds[j]? = some d ∧ P (.v fr d) (a0 :: a1 :: a2 :: a3 :: a4 :: a5 :: a6 :: a7 :: some (.ow k fr (ds.eraseIdx j)) :: ρ)) := rfl
@[simp ↓] theorem yse8 {a0 a1 a2 a3 a4 a5 a6 a7 : Option Cel} {d : D} {k : Option Nat} {ds : List D} : gSet 8 pa (.v f d) (a0 :: a1 :: a2 :: a3 :: a4 :: a5 :: a6 :: a7 :: some (.ow k fr ds) :: ρ) C = pa (a0 :: a1 :: a2 :: a3 :: a4 :: a5 :: a6 :: a7 :: some (.ow k fr ds) :: ρ) fun y ρ1 => kSet 8 f d y ρ1 C := rfl
@[simp ↓] theorem ysk8 {a0 a1 a2 a3 a4 a5 a6 a7 : Option Cel} {d : D} {k : Option Nat} {ds : List D} {z : Int} : kSet 8 f d (.v g (.int z)) (a0 :: a1 :: a2 :: a3 :: a4 :: a5 :: a6 :: a7 :: some (.ow k fr ds) :: ρ) C = (∃ j, ixN ds.length z = some j ∧ C (a0 :: a1 :: a2 :: a3 :: a4 :: a5 :: a6 :: a7 :: some (.ow k (fr && f) (ds.set j d)) :: ρ)) := rfl
@[simp ↓] theorem yvs9 {a0 a1 a2 a3 a4 a5 a6 a7 a8 : Option Cel} {d : D} : pVar 9 (a0 :: a1 :: a2 :: a3 :: a4 :: a5 :: a6 :: a7 :: a8 :: some (.sh fr d) :: ρ) P = P (.v fr d) (a0 :: a1 :: a2 :: a3 :: a4 :: a5 :: a6 :: a7 :: a8 :: some (.sh fr d) :: ρ) := rfl
@[simp ↓] theorem yvo9 {a0 a1 a2 a3 a4 a5 a6 a7 a8 : Option Cel} {k : Option Nat} {ds : List D} : pVar 9 (a0 :: a1 :: a2 :: a3 :: a4 :: a5 :: a6 :: a7 :: a8 :: some (.ow k fr ds) :: ρ) P = P (.s 9) (a0 :: a1 :: a2 :: a3 :: a4 :: a5 :: a6 :: a7 :: a8 :: some (.ow k fr ds) :: ρ) := rfl
@[simp ↓] theorem ygv9 {a0 a1 a2 a3 a4 a5 a6 a7 a8 : Option Cel} {c : Option Cel} {d : D} : gN 9 (.v fr d) (a0 :: a1 :: a2 :: a3 :: a4 :: a5 :: a6 :: a7 :: a8 :: c :: ρ) C = C (a0 :: a1 :: a2 :: a3 :: a4 :: a5 :: a6 :: a7 :: a8 :: some (.sh fr d) :: ρ) := propext ⟨fun h => h.2, fun h => ⟨by simp, h⟩⟩
@[simp ↓] theorem ygf9 {a0 a1 a2 a3 a4 a5 a6 a7 a8 : Option Cel} {c : Option Cel} {d : List D} : gN 9 (.f fr d) (a0 :: a1 :: a2 :: a3 :: a4 :: a5 :: a6 :: a7 :: a8 :: c :: ρ) C = C (a0 :: a1 :: a2 :: a3 :: a4 :: a5 :: a6 :: a7 :: a8 :: some (.ow none fr d) :: ρ) := propext ⟨fun h => h.2, fun h => ⟨by simp, h⟩⟩
@[simp ↓] theorem yrs9 {a0 a1 a2 a3 a4 a5 a6 a7 a8 : Option Cel} {c : Cel} : res (a0 :: a1 :: a2 :: a3 :: a4 :: a5 :: a6 :: a7 :: a8 :: some c :: ρ) (.s 9) = c.rd := rfl
@[simp ↓] theorem yrt9 {a0 a1 a2 a3 a4 a5 a6 a7 a8 : Option Cel} {c : Cel} : resT (a0 :: a1 :: a2 :: a3 :: a4 :: a5 :: a6 :: a7 :: a8 :: some c :: ρ) (.s 9) = some c.dat := rfl
@[simp ↓] theorem yvt9 {a0 a1 a2 a3 a4 a5 a6 a7 a8 : Option Cel} {pp : Bool} {td : D} : pVar 9 (a0 :: a1 :: a2 :: a3 :: a4 :: a5 :: a6 :: a7 :: a8 :: some (.tr pp td) :: ρ) P = P (.s 9) (a0 :: a1 :: a2 :: a3 :: a4 :: a5 :: a6 :: a7 :: a8 :: some (.tr pp td) :: ρ) := rfl
@[simp ↓] theorem ypu9 {a0 a1 a2 a3 a4 a5 a6 a7 a8 : Option Cel} {pp : Bool} {td : D} : put (a0 :: a1 :: a2 :: a3 :: a4 :: a5 :: a6 :: a7 :: a8 :: some (.tr pp td) :: ρ) (.s 9) = (a0 :: a1 :: a2 :: a3 :: a4 :: a5 :: a6 :: a7 :: a8 :: some (.sh (!pp) td) :: ρ) := rfl
@[simp ↓] theorem yrf9 {a0 a1 a2 a3 a4 a5 a6 a7 a8 : Option Cel} {c : Cel} : resF (a0 :: a1 :: a2 :: a3 :: a4 :: a5 :: a6 :: a7 :: a8 :: some c :: ρ) (.s 9) = c.frs := rfl
@[simp ↓] theorem ypt9 {a0 a1 a2 a3 a4 a5 a6 a7 a8 : Option Cel} {k : Option Nat} {ds : List D} : put (a0 :: a1 :: a2 :: a3 :: a4 :: a5 :: a6 :: a7 :: a8 :: some (.ow k fr ds) :: ρ) (.s 9) = (a0 :: a1 :: a2 :: a3 :: a4 :: a5 :: a6 :: a7 :: a8 :: some (.sh fr (.lst ds)) :: ρ) := rfl
@[simp ↓] theorem yps9 {a0 a1 a2 a3 a4 a5 a6 a7 a8 : Option Cel} {d : D} : put (a0 :: a1 :: a2 :: a3 :: a4 :: a5 :: a6 :: a7 :: a8 :: some (.sh fr d) :: ρ) (.s 9) = (a0 :: a1 :: a2 :: a3 :: a4 :: a5 :: a6 :: a7 :: a8 :: some (.sh fr d) :: ρ) := rfl
@[simp] theorem ycm9 {a0 a1 a2 a3 a4 a5 a6 a7 a8 : Option Cel} {n : Nat} {S : Spec'} {xs : List Val} {us : List D} {k : Option Nat} {ds : List D} : kCall n (some 0) S (.s 9 :: xs) (some us) (a0 :: a1 :: a2 :: a3 :: a4 :: a5 :: a6 :: a7 :: a8 :: some (.ow k fr ds) :: ρ) P = (us.length = n ∧ (imms ds = true ∧ others 9 0 (.s 9 :: xs) = true) ∧ S us fun x cs => P x (a0 :: a1 :: a2 :: a3 :: a4 :: a5 :: a6 :: a7 :: a8 :: some (.ow k fr cs) :: ρ)) := by rw [y_kCallm (i := 9) rfl]; rfl
@[simp ↓] theorem yau9 {a0 a1 a2 a3 a4 a5 a6 a7 a8 : Option Cel} {d : D} {k : KO} : sAug 9 pa k E (a0 :: a1 :: a2 :: a3 :: a4 :: a5 :: a6 :: a7 :: a8 :: some (.sh fr d) :: ρ) = pa (a0 :: a1 :: a2 :: a3 :: a4 :: a5 :: a6 :: a7 :: a8 :: some (.sh fr d) :: ρ) fun y ρ1 => kAug 9 fr d k y ρ1 E.nx := rfl
@[simp ↓] theorem yak9 {a0 a1 a2 a3 a4 a5 a6 a7 a8 : Option Cel} {d : D} {k : KO} {y : Val} : kAug 9 fr d k y (a0 :: a1 :: a2 :: a3 :: a4 :: a5 :: a6 :: a7 :: a8 :: some (.sh fr d) :: ρ) C = k (.v fr d) y (a0 :: a1 :: a2 :: a3 :: a4 :: a5 :: a6 :: a7 :: a8 :: some (.sh fr d) :: ρ) fun z ρ2 => gN 9 z ρ2 C := propext ⟨fun h => h.2, fun h => ⟨rfl, h⟩⟩
@[simp ↓] theorem yap9 {a0 a1 a2 a3 a4 a5 a6 a7 a8 : Option Cel} {k : Option Nat} {ds : List D} : pAppend 9 pa (a0 :: a1 :: a2 :: a3 :: a4 :: a5 :: a6 :: a7 :: a8 :: some (.ow k fr ds) :: ρ) P = pa (a0 :: a1 :: a2 :: a3 :: a4 :: a5 :: a6 :: a7 :: a8 :: some (.ow k fr ds) :: ρ) fun y ρ1 => kApp 9 y ρ1 P := rfl
@[simp ↓] theorem yaq9 {a0 a1 a2 a3 a4 a5 a6 a7 a8 : Option Cel} {d : D} {k : Option Nat} {ds : List D} : kApp 9 (.v f d) (a0 :: a1 :: a2 :: a3 :: a4 :: a5 :: a6 :: a7 :: a8 :: some (.ow k fr ds) :: ρ) P = (ds.length < sizeLine ∧ P (.v true .non) (a0 :: a1 :: a2 :: a3 :: a4 :: a5 :: a6 :: a7 :: a8 :: some (.ow k (fr && f) (ds ++ [d])) :: ρ)) := rfl
@[simp ↓] theorem yar9 {a0 a1 a2 a3 a4 a5 a6 a7 a8 : Option Cel} {d : List D} {k : Option Nat} {ds : List D} : kApp 9 (.f f d) (a0 :: a1 :: a2 :: a3 :: a4 :: a5 :: a6 :: a7 :: a8 :: some (.ow k fr ds) :: ρ) P = (ds.length < sizeLine ∧ P (.v true .non) (a0 :: a1 :: a2 :: a3 :: a4 :: a5 :: a6 :: a7 :: a8 :: some (.ow k (fr && f) (ds ++ [.lst d])) :: ρ)) := rfl
@[simp ↓] theorem ypo9 {a0 a1 a2 a3 a4 a5 a6 a7 a8 : Option Cel} {k : Option Nat} {ds : List D} : pPop 9 (a0 :: a1 :: a2 :: a3 :: a4 :: a5 :: a6 :: a7 :: a8 :: some (.ow k fr ds) :: ρ) P = (∃ d, ds[ds.length - 1]? = some d ∧ P (.v fr d) (a0 :: a1 :: a2 :: a3 :: a4 :: a5 :: a6 :: a7 :: a8 :: some (.ow k fr ds.dropLast) :: ρ)) := rfl
@[simp ↓] theorem ypa9 {a0 a1 a2 a3 a4 a5 a6 a7 a8 : Option Cel} {k : Option Nat} {ds : List D} : pPopAt 9 pa (a0 :: a1 :: a2 :: a3 :: a4 :: a5 :: a6 :: a7 :: a8 :: some (.ow k fr ds) :: ρ) P = pa (a0 :: a1 :: a2 :: a3 :: a4 :: a5 :: a6 :: a7 :: a8 :: some (.ow k fr ds) :: ρ) fun y ρ1 => kPopAt 9 y ρ1 P := rfl
@[simp ↓] theorem ykp9 {a0 a1 a2 a3 a4 a5 a6 a7 a8 : Option Cel} {k : Option Nat} {ds : List D} {z : Int} : kPopAt 9 (.v g (.int z)) (a0 :: a1 :: a2 :: a3 :: a4 :: a5 :: a6 :: a7 :: a8 :: some (.ow k fr ds) :: ρ) P = (-(2 ^ 63) ≤ z ∧ z < 2 ^ 63 ∧ ∃ j d, ixN ds.length z = some j ∧ ds[j]? = some d ∧ P (.v fr d) (a0 :: a1 :: a2 :: a3 :: a4 :: a5 :: a6 :: a7 :: a8 :: some (.ow k fr (ds.eraseIdx j)) :: ρ)) := rfl
@[simp ↓] theorem yse9 {a0 a1 a2 a3 a4 a5 a6 a7 a8 : Option Cel} {d : D} {k : Option Nat} {ds : List D} : gSet 9 pa (.v f d) (a0 :: a1 :: a2 :: a3 :: a4 :: a5 :: a6 :: a7 :: a8 :: some (.ow k fr ds) :: ρ) C = pa (a0 :: a1 :: a2 :: a3 :: a4 :: a5 :: a6 :: a7 :: a8 :: some (.ow k fr ds) :: ρ) fun y ρ1 => kSet 9 f d y ρ1 C := rfl
@[simp ↓] theorem ysk9 {a0 a1 a2 a3 a4 a5 a6 a7 a8 : Option Cel} {d : D} {k : Option Nat} {ds : List D} {z : Int} : kSet 9 f d (.v g (.int z)) (a0 :: a1 :: a2 :: a3 :: a4 :: a5 :: a6 :: a7 :: a8 :: some (.ow k fr ds) :: ρ) C = (∃ j, ixN ds.length z = some j ∧ C (a0 :: a1 :: a2 :: a3 :: a4 :: a5 :: a6 :: a7 :: a8 :: some (.ow k (fr && f) (ds.set j d)) :: ρ)) := rfl
@[simp ↓] theorem yvs10 {a0 a1 a2 a3 a4 a5 a6 a7 a8 a9 : Option Cel} {d : D} : pVar 10 (a0 :: a1 :: a2 :: a3 :: a4 :: a5 :: a6 :: a7 :: a8 :: a9 :: some (.sh fr d) :: ρ) P = P (.v fr d) (a0 :: a1 :: a2 :: a3 :: a4 :: a5 :: a6 :: a7 :: a8 :: a9 :: some (.sh fr d) :: ρ) := rfl
@[simp ↓] theorem yvo10 {a0 a1 a2 a3 a4 a5 a6 a7 a8 a9 : Option Cel} {k : Option Nat} {ds : List D} : pVar 10 (a0 :: a1 :: a2 :: a3 :: a4 :: a5 :: a6 :: a7 :: a8 :: a9 :: some (.ow k fr ds) :: ρ) P = P (.s 10) (a0 :: a1 :: a2 :: a3 :: a4 :: a5 :: a6 :: a7 :: a8 :: a9 :: some (.ow k fr ds) :: ρ) := rfl
@[simp ↓] theorem ygv10 {a0 a1 a2 a3 a4 a5 a6 a7 a8 a9 : Option Cel} {c : Option Cel} {d : D} : gN 10 (.v fr d) (a0 :: a1 :: a2 :: a3 :: a4 :: a5 :: a6 :: a7 :: a8 :: a9 :: c :: ρ) C = C (a0 :: a1 :: a2 :: a3 :: a4 :: a5 :: a6 :: a7 :: a8 :: a9 :: some (.sh fr d) :: ρ) := propext ⟨fun h => h.2, fun h => ⟨by simp, h⟩⟩
@[simp ↓] theorem ygf10 {a0 a1 a2 a3 a4 a5 a6 a7 a8 a9 : Option Cel} {c : Option Cel} {d : List D} : gN 10 (.f fr d) (a0 :: a1 :: a2 :: a3 :: a4 :: a5 :: a6 :: a7 :: a8 :: a9 :: c :: ρ) C = C (a0 :: a1 :: a2 :: a3 :: a4 :: a5 :: a6 :: a7 :: a8 :: a9 :: some (.ow none fr d) :: ρ) := propext ⟨fun h => h.2, fun h => ⟨by simp, h⟩⟩
@[simp ↓] theorem yrs10 {a0 a1 a2 a3 a4 a5 a6 a7 a8 a9 : Option Cel} {c : Cel} : res (a0 :: a1 :: a2 :: a3 :: a4 :: a5 :: a6 :: a7 :: a8 :: a9 :: some c :: ρ) (.s 10) = c.rd := rfl
@[simp ↓] theorem yrt10 {a0 a1 a2 a3 a4 a5 a6 a7 a8 a9 : Option Cel} {c : Cel} : resT (a0 :: a1 :: a2 :: a3 :: a4 :: a5 :: a6 :: a7 :: a8 :: a9 :: some c :: ρ) (.s 10) = some c.dat := rfl
@[simp ↓] theorem yvt10 {a0 a1 a2 a3 a4 a5 a6 a7 a8 a9 : Option Cel} {pp : Bool} {td : D} : pVar 10 (a0 :: a1 :: a2 :: a3 :: a4 :: a5 :: a6 :: a7 :: a8 :: a9 :: some (.tr pp td) :: ρ) P = P (.s 10) (a0 :: a1 :: a2 :: a3 :: a4 :: a5 :: a6 :: a7 :: a8 :: a9 :: some (.tr pp td) :: ρ) := rfl
@[simp ↓] theorem ypu10 {a0 a1 a2 a3 a4 a5 a6 a7 a8 a9 : Option Cel} {pp : Bool} {td : D} : put (a0 :: a1 :: a2 :: a3 :: a4 :: a5 :: a6 :: a7 :: a8 :: a9 :: some (.tr pp td) :: ρ) (.s 10) = (a0 :: a1 :: a2 :: a3 :: a4 :: a5 :: a6 :: a7 :: a8 :: a9 :: some (.sh (!pp) td) :: ρ) := rfl
@[simp ↓] theorem yrf10 {a0 a1 a2 a3 a4 a5 a6 a7 a8 a9 : Option Cel} {c : Cel} : resF (a0 :: a1 :: a2 :: a3 :: a4 :: a5 :: a6 :: a7 :: a8 :: a9 :: some c :: ρ) (.s 10) = c.frs := rfl
@[simp ↓] theorem ypt10 {a0 a1 a2 a3 a4 a5 a6 a7 a8 a9 : Option Cel} {k : Option Nat} {ds : List D} : put (a0 :: a1 :: a2 :: a3 :: a4 :: a5 :: a6 :: a7 :: a8 :: a9 :: some (.ow k fr ds) :: ρ) (.s 10) = (a0 :: a1 :: a2 :: a3 :: a4 :: a5 :: a6 :: a7 :: a8 :: a9 :: some (.sh fr (.lst ds)) :: ρ) := rfl
@[simp ↓] theorem yps10 {a0 a1 a2 a3 a4 a5 a6 a7 a8 a9 : Option Cel} {d : D} : put (a0 :: a1 :: a2 :: a3 :: a4 :: a5 :: a6 :: a7 :: a8 :: a9 :: some (.sh fr d) :: ρ) (.s 10) = (a0 :: a1 :: a2 :: a3 :: a4 :: a5 :: a6 :: a7 :: a8 :: a9 :: some (.sh fr d) :: ρ) := rfl
@[simp] theorem ycm10 {a0 a1 a2 a3 a4 a5 a6 a7 a8 a9 : Option Cel} {n : Nat} {S : Spec'} {xs : List Val} {us : List D} {k : Option Nat} {ds : List D} : kCall n (some 0) S (.s 10 :: xs) (some us) (a0 :: a1 :: a2 :: a3 :: a4 :: a5 :: a6 :: a7 :: a8 :: a9 :: some (.ow k fr ds) :: ρ) P = (us.length = n ∧ (imms ds = true ∧ others 10 0 (.s 10 :: xs) = true) ∧ S us fun x cs => P x (a0 :: a1 :: a2 :: a3 :: a4 :: a5 :: a6 :: a7 :: a8 :: a9 :: some (.ow k fr cs) :: ρ)) := by rw [y_kCallm (i := 10) rfl]; rfl
@[simp ↓] theorem yau10 {a0 a1 a2 a3 a4 a5 a6 a7 a8 a9 : Option Cel} {d : D} {k : KO} : sAug 10 pa k E (a0 :: a1 :: a2 :: a3 :: a4 :: a5 :: a6 :: a7 :: a8 :: a9 :: some (.sh fr d) :: ρ) = pa (a0 :: a1 :: a2 :: a3 :: a4 :: a5 :: a6 :: a7 :: a8 :: a9 :: some (.sh fr d) :: ρ) fun y ρ1 => kAug 10 fr d k y ρ1 E.nx := rfl
@[simp ↓] theorem yak10 {a0 a1 a2 a3 a4 a5 a6 a7 a8 a9 : Option Cel} {d : D} {k : KO} {y : Val} : kAug 10 fr d k y (a0 :: a1 :: a2 :: a3 :: a4 :: a5 :: a6 :: a7 :: a8 :: a9 :: some (.sh fr d) :: ρ) C = k (.v fr d) y (a0 :: a1 :: a2 :: a3 :: a4 :: a5 :: a6 :: a7 :: a8 :: a9 :: some (.sh fr d) :: ρ) fun z ρ2 => gN 10 z ρ2 C := propext ⟨fun h => h.2, fun h => ⟨rfl, h⟩⟩
@[simp ↓] theorem yap10 {a0 a1 a2 a3 a4 a5 a6 a7 a8 a9 : Option Cel} {k : Option Nat} {ds : List D} : pAppend 10 pa (a0 :: a1 :: a2 :: a3 :: a4 :: a5 :: a6 :: a7 :: a8 :: a9 :: some (.ow k fr ds) :: ρ) P = pa (a0 :: a1 :: a2 :: a3 :: a4 :: a5 :: a6 :: a7 :: a8 :: a9 :: some (.ow k fr ds) :: ρ) fun y ρ1 => kApp 10 y ρ1 P := rfl
@[simp ↓] theorem yaq10 {a0 a1 a2 a3 a4 a5 a6 a7 a8 a9 : Option Cel} {d : D} {k : Option Nat} {ds : List D} : kApp 10 (.v f d) (a0 :: a1 :: a2 :: a3 :: a4 :: a5 :: a6 :: a7 :: a8 :: a9 :: some (.ow k fr ds) :: ρ) P = (ds.length < sizeLine ∧ P (.v true .non) (a0 :: a1 :: a2 :: a3 :: a4 :: a5 :: a6 :: a7 :: a8 :: a9 :: some (.ow k (fr && f) (ds ++ [d])) :: ρ)) := rfl
@[simp ↓] theorem yar10 {a0 a1 a2 a3 a4 a5 a6 a7 a8 a9 : Option Cel} {d : List D} {k : Option Nat} {ds : List D} : kApp 10 (.f f d) (a0 :: a1 :: a2 :: a3 :: a4 :: a5 :: a6 :: a7 :: a8 :: a9 :: some (.ow k fr ds) :: ρ) P = (ds.length < sizeLine ∧ P (.v true .non) (a0 :: a1 :: a2 :: a3 :: a4 :: a5 :: a6 :: a7 :: a8 :: a9 :: some (.ow k (fr && f) (ds ++ [.lst d])) :: ρ)) := rfl
@[simp ↓] theorem ypo10 {a0 a1 a2 a3 a4 a5 a6 a7 a8 a9 : Option Cel} {k : Option Nat} {ds : List D} : pPop 10 (a0 :: a1 :: a2 :: a3 :: a4 :: a5 :: a6 :: a7 :: a8 :: a9 :: some (.ow k fr ds) :: ρ) P = (∃ d, ds[ds.length - 1]? = some d ∧ P (.v fr d) (a0 :: a1 :: a2 :: a3 :: a4 :: a5 :: a6 :: a7 :: a8 :: a9 :: some (.ow k fr ds.dropLast) :: ρ)) := rfl
@[simp ↓] theorem ypa10 {a0 a1 a2 a3 a4 a5 a6 a7 a8 a9 : Option Cel} {k : Option Nat} {ds : List D} : pPopAt 10 pa (a0 :: a1 :: a2 :: a3 :: a4 :: a5 :: a6 :: a7 :: a8 :: a9 :: some (.ow k fr ds) :: ρ) P = pa (a0 :: a1 :: a2 :: a3 :: a4 :: a5 :: a6 :: a7 :: a8 :: a9 :: some (.ow k fr ds) :: ρ) fun y ρ1 => kPopAt 10 y ρ1 P := rfl
@[simp ↓] theorem ykp10 {a0 a1 a2 a3 a4 a5 a6 a7 a8 a9 : Option Cel} {k : Option Nat} {ds : List D} {z : Int} : kPopAt 10 (.v g (.int z)) (a0 :: a1 :: a2 :: a3 :: a4 :: a5 :: a6 :: a7 :: a8 :: a9 :: some (.ow k fr ds) :: ρ) P = (-(2 ^ 63) ≤ z ∧ z < 2 ^ 63 ∧ ∃ j d, ixN ds.length z = some j ∧ ds[j]? = some d ∧ P (.v fr d) (a0 :: a1 :: a2 :: a3 :: a4 :: a5 :: a6 :: a7 :: a8 :: a9 :: some (.ow k fr (ds.eraseIdx j)) :: ρ)) := rfl
@[simp ↓] theorem yse10 {a0 a1 a2 a3 a4 a5 a6 a7 a8 a9 : Option Cel} {d : D} {k : Option Nat} {ds : List D} : gSet 10 pa (.v f d) (a0 :: a1 :: a2 :: a3 :: a4 :: a5 :: a6 :: a7 :: a8 :: a9 :: some (.ow k fr ds) :: ρ) C = pa (a0 :: a1 :: a2 :: a3 :: a4 :: a5 :: a6 :: a7 :: a8 :: a9 :: some (.ow k fr ds) :: ρ) fun y ρ1 => kSet 10 f d y ρ1 C := rfl
@[simp ↓] theorem ysk10 {a0 a1 a2 a3 a4 a5 a6 a7 a8 a9 : Option Cel} {d : D} {k : Option Nat} {ds : List D} {z : Int} : kSet 10 f d (.v g (.int z)) (a0 :: a1 :: a2 :: a3 :: a4 :: a5 :: a6 :: a7 :: a8 :: a9 :: some (.ow k fr ds) :: ρ) C = (∃ j, ixN ds.length z = some j ∧ C (a0 :: a1 :: a2 :: a3 :: a4 :: a5 :: a6 :: a7 :: a8 :: a9 :: some (.ow k (fr && f) (ds.set j d)) :: ρ)) := rfl
@[simp ↓] theorem yvs11 {a0 a1 a2 a3 a4 a5 a6 a7 a8 a9 a10 : Option Cel} {d : D} : pVar 11 (a0 :: a1 :: a2 :: a3 :: a4 :: a5 :: a6 :: a7 :: a8 :: a9 :: a10 :: some (.sh fr d) :: ρ) P = P (.v fr d) (a0 :: a1 :: a2 :: a3 :: a4 :: a5 :: a6 :: a7 :: a8 :: a9 :: a10 :: some (.sh fr d) :: ρ) := rfl
@[simp ↓] theorem yvo11 {a0 a1 a2 a3 a4 a5 a6 a7 a8 a9 a10 : Option Cel} {k : Option Nat} {ds : List D} : pVar 11 (a0 :: a1 :: a2 :: a3 :: a4 :: a5 :: a6 :: a7 :: a8 :: a9 :: a10 :: some (.ow k fr ds) :: ρ) P = P (.s 11) (a0 :: a1 :: a2 :: a3 :: a4 :: a5 :: a6 :: a7 :: a8 :: a9 :: a10 :: some (.ow k fr ds) :: ρ) := rfl
@[simp ↓] theorem ygv11 {a0 a1 a2 a3 a4 a5 a6 a7 a8 a9 a10 : Option Cel} {c : Option Cel} {d : D} : gN 11 (.v fr d) (a0 :: a1 :: a2 :: a3 :: a4 :: a5 :: a6 :: a7 :: a8 :: a9 :: a10 :: c :: ρ) C = C (a0 :: a1 :: a2 :: a3 :: a4 :: a5 :: a6 :: a7 :: a8 :: a9 :: a10 :: some (.sh fr d) :: ρ) := propext ⟨fun h => h.2, fun h => ⟨by simp, h⟩⟩
@[simp ↓] theorem ygf11 {a0 a1 a2 a3 a4 a5 a6 a7 a8 a9 a10 : Option Cel} {c : Option Cel} {d : List D} : gN 11 (.f fr d) (a0 :: a1 :: a2 :: a3 :: a4 :: a5 :: a6 :: a7 :: a8 :: a9 :: a10 :: c :: ρ) C = C (a0 :: a1 :: a2 :: a3 :: a4 :: a5 :: a6 :: a7 :: a8 :: a9 :: a10 :: some (.ow none fr d) :: ρ) := propext ⟨fun h => h.2, fun h => ⟨by simp, h⟩⟩
@[simp ↓] theorem yrs11 {a0 a1 a2 a3 a4 a5 a6 a7 a8 a9 a10 : Option Cel} {c : Cel} : res (a0 :: a1 :: a2 :: a3 :: a4 :: a5 :: a6 :: a7 :: a8 :: a9 :: a10 :: some c :: ρ) (.s 11) = c.rd := rfl
@[simp ↓] theorem yrt11 {a0 a1 a2 a3 a4 a5 a6 a7 a8 a9 a10 : Option Cel} {c : Cel} : resT (a0 :: a1 :: a2 :: a3 :: a4 :: a5 :: a6 :: a7 :: a8 :: a9 :: a10 :: some c :: ρ) (.s 11) = some c.dat := rfl
@[simp ↓] theorem yvt11 {a0 a1 a2 a3 a4 a5 a6 a7 a8 a9 a10 : Option Cel} {pp : Bool} {td : D} : pVar 11 (a0 :: a1 :: a2 :: a3 :: a4 :: a5 :: a6 :: a7 :: a8 :: a9 :: a10 :: some (.tr pp td) :: ρ) P = P (.s 11) (a0 :: a1 :: a2 :: a3 :: a4 :: a5 :: a6 :: a7 :: a8 :: a9 :: a10 :: some (.tr pp td) :: ρ) := rfl
@[simp ↓] theorem ypu11 {a0 a1 a2 a3 a4 a5 a6 a7 a8 a9 a10 : Option Cel} {pp : Bool} {td : D} : put (a0 :: a1 :: a2 :: a3 :: a4 :: a5 :: a6 :: a7 :: a8 :: a9 :: a10 :: some (.tr pp td) :: ρ) (.s 11) = (a0 :: a1 :: a2 :: a3 :: a4 :: a5 :: a6 :: a7 :: a8 :: a9 :: a10 :: some (.sh (!pp) td) :: ρ) := rfl
@[simp ↓] theorem yrf11 {a0 a1 a2 a3 a4 a5 a6 a7 a8 a9 a10 : Option Cel} {c : Cel} : resF (a0 :: a1 :: a2 :: a3 :: a4 :: a5 :: a6 :: a7 :: a8 :: a9 :: a10 :: some c :: ρ) (.s 11) = c.frs := rfl
@[simp ↓] theorem ypt11 {a0 a1 a2 a3 a4 a5 a6 a7 a8 a9 a10 : Option Cel} {k : Option Nat} {ds : List D} : put (a0 :: a1 :: a2 :: a3 :: a4 :: a5 :: a6 :: a7 :: a8 :: a9 :: a10 :: some (.ow k fr ds) :: ρ) (.s 11) = (a0 :: a1 :: a2 :: a3 :: a4 :: a5 :: a6 :: a7 :: a8 :: a9 :: a10 :: some (.sh fr (.lst ds)) :: ρ) := rfl
@[simp ↓] theorem yps11 {a0 a1 a2 a3 a4 a5 a6 a7 a8 a9 a10 : Option Cel} {d : D} : put (a0 :: a1 :: a2 :: a3 :: a4 :: a5 :: a6 :: a7 :: a8 :: a9 :: a10 :: some (.sh fr d) :: ρ) (.s 11) = (a0 :: a1 :: a2 :: a3 :: a4 :: a5 :: a6 :: a7 :: a8 :: a9 :: a10 :: some (.sh fr d) :: ρ) := rfl
@[simp] theorem ycm11 {a0 a1 a2 a3 a4 a5 a6 a7 a8 a9 a10 : Option Cel} {n : Nat} {S : Spec'} {xs : List Val} {us : List D} {k : Option Nat} {ds : List D} : kCall n (some 0) S (.s 11 :: xs) (some us) (a0 :: a1 :: a2 :: a3 :: a4 :: a5 :: a6 :: a7 :: a8 :: a9 :: a10 :: some (.ow k fr ds) :: ρ) P = (us.length = n ∧ (imms ds = true ∧ others 11 0 (.s 11 :: xs) = true) ∧ S us fun x cs => P x (a0 :: a1 :: a2 :: a3 :: a4 :: a5 :: a6 :: a7 :: a8 :: a9 :: a10 :: some (.ow k fr cs) :: ρ)) := by rw [y_kCallm (i := 11) rfl]; rfl
@[simp ↓] theorem yau11 {a0 a1 a2 a3 a4 a5 a6 a7 a8 a9 a10 : Option Cel} {d : D} {k : KO} : sAug 11 pa k E (a0 :: a1 :: a2 :: a3 :: a4 :: a5 :: a6 :: a7 :: a8 :: a9 :: a10 :: some (.sh fr d) :: ρ) = pa (a0 :: a1 :: a2 :: a3 :: a4 :: a5 :: a6 :: a7 :: a8 :: a9 :: a10 :: some (.sh fr d) :: ρ) fun y ρ1 => kAug 11 fr d k y ρ1 E.nx := rfl
@[simp ↓] theorem yak11 {a0 a1 a2 a3 a4 a5 a6 a7 a8 a9 a10 : Option Cel} {d : D} {k : KO} {y : Val} : kAug 11 fr d k y (a0 :: a1 :: a2 :: a3 :: a4 :: a5 :: a6 :: a7 :: a8 :: a9 :: a10 :: some (.sh fr d) :: ρ) C = k (.v fr d) y (a0 :: a1 :: a2 :: a3 :: a4 :: a5 :: a6 :: a7 :: a8 :: a9 :: a10 :: some (.sh fr d) :: ρ) fun z ρ2 => gN 11 z ρ2 C := propext ⟨fun h => h.2, fun h => ⟨rfl, h⟩⟩
@[simp ↓] theorem yap11 {a0 a1 a2 a3 a4 a5 a6 a7 a8 a9 a10 : Option Cel} {k : Option Nat} {ds : List D} : pAppend 11 pa (a0 :: a1 :: a2 :: a3 :: a4 :: a5 :: a6 :: a7 :: a8 :: a9 :: a10 :: some (.ow k fr ds) :: ρ) P = pa (a0 :: a1 :: a2 :: a3 :: a4 :: a5 :: a6 :: a7 :: a8 :: a9 :: a10 :: some (.ow k fr ds) :: ρ) fun y ρ1 => kApp 11 y ρ1 P := rfl
@[simp ↓] theorem yaq11 {a0 a1 a2 a3 a4 a5 a6 a7 a8 a9 a10 : Option Cel} {d : D} {k : Option Nat} {ds : List D} : kApp 11 (.v f d) (a0 :: a1 :: a2 :: a3 :: a4 :: a5 :: a6 :: a7 :: a8 :: a9 :: a10 :: some (.ow k fr ds) :: ρ) P = (ds.length < sizeLine ∧ P (.v true .non) (a0 :: a1 :: a2 :: a3 :: a4 :: a5 :: a6 :: a7 :: a8 :: a9 :: a10 :: some (.ow k (fr && f) (ds ++ [d])) :: ρ)) := rfl
@[simp ↓] theorem yar11 {a0 a1 a2 a3 a4 a5 a6 a7 a8 a9 a10 : Option Cel} {d : List D} {k : Option Nat} {ds : List D} : kApp 11 (.f f d) (a0 :: a1 :: a2 :: a3 :: a4 :: a5 :: a6 :: a7 :: a8 :: a9 :: a10 :: some (.ow k fr ds) :: ρ) P = (ds.length < sizeLine ∧ P (.v true .non) (a0 :: a1 :: a2 :: a3 :: a4 :: a5 :: a6 :: a7 :: a8 :: a9 :: a10 :: some (.ow k (fr && f) (ds ++ [.lst d])) :: ρ)) := rfl
@[simp ↓] theorem ypo11 {a0 a1 a2 a3 a4 a5 a6 a7 a8 a9 a10 : Option Cel} {k : Option Nat} {ds : List D} : pPop 11 (a0 :: a1 :: a2 :: a3 :: a4 :: a5 :: a6 :: a7 :: a8 :: a9 :: a10 :: some (.ow k fr ds) :: ρ) P = (∃ d, ds[ds.length - 1]? = some d ∧ P (.v fr d) (a0 :: a1 :: a2 :: a3 :: a4 :: a5 :: a6 :: a7 :: a8 :: a9 :: a10 :: some (.ow k fr ds.dropLast) :: ρ)) := rfl
@[simp ↓] theorem ypa11 {a0 a1 a2 a3 a4 a5 a6 a7 a8 a9 a10 : Option Cel} {k : Option Nat} {ds : List D} : pPopAt 11 pa (a0 :: a1 :: a2 :: a3 :: a4 :: a5 :: a6 :: a7 :: a8 :: a9 :: a10 :: some (.ow k fr ds) :: ρ) P = pa (a0 :: a1 :: a2 :: a3 :: a4 :: a5 :: a6 :: a7 :: a8 :: a9 :: a10 :: some (.ow k fr ds) :: ρ) fun y ρ1 => kPopAt 11 y ρ1 P := rfl
@[simp ↓] theorem ykp11 {a0 a1 a2 a3 a4 a5 a6 a7 a8 a9 a10 : Option Cel} {k : Option Nat} {ds : List D} {z : Int} : kPopAt 11 (.v g (.int z)) (a0 :: a1 :: a2 :: a3 :: a4 :: a5 :: a6 :: a7 :: a8 :: a9 :: a10 :: some (.ow k fr ds) :: ρ) P = (-(2 ^ 63) ≤ z ∧ z < 2 ^ 63 ∧ ∃ j d, ixN ds.length z = some j ∧ ds[j]? = some d ∧ P (.v fr d) (a0 :: a1 :: a2 :: a3 :: a4 :: a5 :: a6 :: a7 :: a8 :: a9 :: a10 :: some (.ow k fr (ds.eraseIdx j)) :: ρ)) := rfl
@[simp ↓] theorem yse11 {a0 a1 a2 a3 a4 a5 a6 a7 a8 a9 a10 : Option Cel} {d : D} {k : Option Nat} {ds : List D} : gSet 11 pa (.v f d) (a0 :: a1 :: a2 :: a3 :: a4 :: a5 :: a6 :: a7 :: a8 :: a9 :: a10 :: some (.ow k fr ds) :: ρ) C = pa (a0 :: a1 :: a2 :: a3 :: a4 :: a5 :: a6 :: a7 :: a8 :: a9 :: a10 :: some (.ow k fr ds) :: ρ) fun y ρ1 => kSet 11 f d y ρ1 C := rfl
@[simp ↓] theorem ysk11 {a0 a1 a2 a3 a4 a5 a6 a7 a8 a9 a10 : Option Cel} {d : D} {k : Option Nat} {ds : List D} {z : Int} : kSet 11 f d (.v g (.int z)) (a0 :: a1 :: a2 :: a3 :: a4 :: a5 :: a6 :: a7 :: a8 :: a9 :: a10 :: some (.ow k fr ds) :: ρ) C = (∃ j, ixN ds.length z = some j ∧ C (a0 :: a1 :: a2 :: a3 :: a4 :: a5 :: a6 :: a7 :: a8 :: a9 :: a10 :: some (.ow k (fr && f) (ds.set j d)) :: ρ)) := rfl
@[simp ↓] theorem yvs12 {a0 a1 a2 a3 a4 a5 a6 a7 a8 a9 a10 a11 : Option Cel} {d : D} : pVar 12 (a0 :: a1 :: a2 :: a3 :: a4 :: a5 :: a6 :: a7 :: a8 :: a9 :: a10 :: a11 :: some (.sh fr d) :: ρ) P = P (.v fr d) (a0 :: a1 :: a2 :: a3 :: a4 :: a5 :: a6 :: a7 :: a8 :: a9 :: a10 :: a11 :: some (.sh fr d) :: ρ) := rfl
@[simp ↓] theorem yvo12 {a0 a1 a2 a3 a4 a5 a6 a7 a8 a9 a10 a11 : Option Cel} {k : Option Nat} {ds : List D} : pVar 12 (a0 :: a1 :: a2 :: a3 :: a4 :: a5 :: a6 :: a7 :: a8 :: a9 :: a10 :: a11 :: some (.ow k fr ds) :: ρ) P = P (.s 12) (a0 :: a1 :: a2 :: a3 :: a4 :: a5 :: a6 :: a7 :: a8 :: a9 :: a10 :: a11 :: some (.ow k fr ds) :: ρ) := rfl
@[simp ↓] theorem ygv12 {a0 a1 a2 a3 a4 a5 a6 a7 a8 a9 a10 a11 : Option Cel} {c : Option Cel} {d : D} : gN 12 (.v fr d) (a0 :: a1 :: a2 :: a3 :: a4 :: a5 :: a6 :: a7 :: a8 :: a9 :: a10 :: a11 :: c :: ρ) C = C (a0 :: a1 :: a2 :: a3 :: a4 :: a5 :: a6 :: a7 :: a8 :: a9 :: a10 :: a11 :: some (.sh fr d) :: ρ) := propext ⟨fun h => h.2, fun h => ⟨by simp, h⟩⟩
@[simp ↓] theorem ygf12 {a0 a1 a2 a3 a4 a5 a6 a7 a8 a9 a10 a11 : Option Cel} {c : Option Cel} {d : List D} : gN 12 (.f fr d) (a0 :: a1 :: a2 :: a3 :: a4 :: a5 :: a6 :: a7 :: a8 :: a9 :: a10 :: a11 :: c :: ρ) C = C (a0 :: a1 :: a2 :: a3 :: a4 :: a5 :: a6 :: a7 :: a8 :: a9 :: a10 :: a11 :: some (.ow none fr d) :: ρ) := propext ⟨fun h => h.2, fun h => ⟨by simp, h⟩⟩
@[simp ↓] theorem yrs12 {a0 a1 a2 a3 a4 a5 a6 a7 a8 a9 a10 a11 : Option Cel} {c : Cel} : res (a0 :: a1 :: a2 :: a3 :: a4 :: a5 :: a6 :: a7 :: a8 :: a9 :: a10 :: a11 :: some c :: ρ) (.s 12) = c.rd := rfl
@[simp ↓] theorem yrt12 {a0 a1 a2 a3 a4 a5 a6 a7 a8 a9 a10 a11 : Option Cel} {c : Cel} : resT (a0 :: a1 :: a2 :: a3 :: a4 :: a5 :: a6 :: a7 :: a8 :: a9 :: a10 :: a11 :: some c :: ρ) (.s 12) = some c.dat := rfl
@[simp ↓] theorem yvt12 {a0 a1 a2 a3 a4 a5 a6 a7 a8 a9 a10 a11 : Option Cel} {pp : Bool} {td : D} : pVar 12 (a0 :: a1 :: a2 :: a3 :: a4 :: a5 :: a6 :: a7 :: a8 :: a9 :: a10 :: a11 :: some (.tr pp td) :: ρ) P = P (.s 12) (a0 :: a1 :: a2 :: a3 :: a4 :: a5 :: a6 :: a7 :: a8 :: a9 :: a10 :: a11 :: some (.tr pp td) :: ρ) := rfl
@[simp ↓] theorem ypu12 {a0 a1 a2 a3 a4 a5 a6 a7 a8 a9 a10 a11 : Option Cel} {pp : Bool} {td : D} : put (a0 :: a1 :: a2 :: a3 :: a4 :: a5 :: a6 :: a7 :: a8 :: a9 :: a10 :: a11 :: some (.tr pp td) :: ρ) (.s 12) = (a0 :: a1 :: a2 :: a3 :: a4 :: a5 :: a6 :: a7 :: a8 :: a9 :: a10 :: a11 :: some (.sh (!pp) td) :: ρ) := rfl
@[simp ↓] theorem yrf12 {a0 a1 a2 a3 a4 a5 a6 a7 a8 a9 a10 a11 : Option Cel} {c : Cel} : resF (a0 :: a1 :: a2 :: a3 :: a4 :: a5 :: a6 :: a7 :: a8 :: a9 :: a10 :: a11 :: some c :: ρ) (.s 12) = c.frs := rfl
@[simp ↓] theorem ypt12 {a0 a1 a2 a3 a4 a5 a6 a7 a8 a9 a10 a11 : Option Cel} {k : Option Nat} {ds : List D} : put (a0 :: a1 :: a2 :: a3 :: a4 :: a5 :: a6 :: a7 :: a8 :: a9 :: a10 :: a11 :: some (.ow k fr ds) :: ρ) (.s 12) = (a0 :: a1 :: a2 :: a3 :: a4 :: a5 :: a6 :: a7 :: a8 :: a9 :: a10 :: a11 :: some (.sh fr (.lst ds)) :: ρ) := rfl
@[simp ↓] theorem yps12 {a0 a1 a2 a3 a4 a5 a6 a7 a8 a9 a10 a11 : Option Cel} {d : D} : put (a0 :: a1 :: a2 :: a3 :: a4 :: a5 :: a6 :: a7 :: a8 :: a9 :: a10 :: a11 :: some (.sh fr d) :: ρ) (.s 12) = (a0 :: a1 :: a2 :: a3 :: a4 :: a5 :: a6 :: a7 :: a8 :: a9 :: a10 :: a11 :: some (.sh fr d) :: ρ) := rfl
@[simp] theorem ycm12 {a0 a1 a2 a3 a4 a5 a6 a7 a8 a9 a10 a11 : Option Cel} {n : Nat} {S : Spec'} {xs : List Val} {us : List D} {k : Option Nat} {ds : List D} : kCall n (some 0) S (.s 12 :: xs) (some us) (a0 :: a1 :: a2 :: a3 :: a4 :: a5 :: a6 :: a7 :: a8 :: a9 :: a10 :: a11 :: some (.ow k fr ds) :: ρ) P = (us.length = n ∧ (imms ds = true ∧ others 12 0 (.s 12 :: xs) = true) ∧ S us fun x cs => P x (a0 :: a1 :: a2 :: a3 :: a4 :: a5 :: a6 :: a7 :: a8 :: a9 :: a10 :: a11 :: some (.ow k fr cs) :: ρ)) := by rw [y_kCallm (i := 12) rfl]; rfl
@[simp ↓] theorem yau12 {a0 a1 a2 a3 a4 a5 a6 a7 a8 a9 a10 a11 : Option Cel} {d : D} {k : KO} : sAug 12 pa k E (a0 :: a1 :: a2 :: a3 :: a4 :: a5 :: a6 :: a7 :: a8 :: a9 :: a10 :: a11 :: some (.sh fr d) :: ρ) = pa (a0 :: a1 :: a2 :: a3 :: a4 :: a5 :: a6 :: a7 :: a8 :: a9 :: a10 :: a11 :: some (.sh fr d) :: ρ) fun y ρ1 => kAug 12 fr d k y ρ1 E.nx := rfl
@[simp ↓] theorem yak12 {a0 a1 a2 a3 a4 a5 a6 a7 a8 a9 a10 a11 : Option Cel} {d : D} {k : KO} {y : Val} : kAug 12 fr d k y (a0 :: a1 :: a2 :: a3 :: a4 :: a5 :: a6 :: a7 :: a8 :: a9 :: a10 :: a11 :: some (.sh fr d) :: ρ) C = k (.v fr d) y (a0 :: a1 :: a2 :: a3 :: a4 :: a5 :: a6 :: a7 :: a8 :: a9 :: a10 :: a11 :: some (.sh fr d) :: ρ) fun z ρ2 => gN 12 z ρ2 C := propext ⟨fun h => h.2, fun h => ⟨rfl, h⟩⟩
@[simp ↓] theorem yap12 {a0 a1 a2 a3 a4 a5 a6 a7 a8 a9 a10 a11 : Option Cel} {k : Option Nat} {ds : List D} : pAppend 12 pa (a0 :: a1 :: a2 :: a3 :: a4 :: a5 :: a6 :: a7 :: a8 :: a9 :: a10 :: a11 :: some (.ow k fr ds) :: ρ) P = pa (a0 :: a1 :: a2 :: a3 :: a4 :: a5 :: a6 :: a7 :: a8 :: a9 :: a10 :: a11 :: some (.ow k fr ds) :: ρ) fun y ρ1 => kApp 12 y ρ1 P := rfl
@[simp ↓] theorem yaq12 {a0 a1 a2 a3 a4 a5 a6 a7 a8 a9 a10 a11 : Option Cel} {d : D} {k : Option Nat} {ds : List D} : kApp 12 (.v f d) (a0 :: a1 :: a2 :: a3 :: a4 :: a5 :: a6 :: a7 :: a8 :: a9 :: a10 :: a11 :: some (.ow k fr ds) :: ρ) P = (ds.length < sizeLine ∧ P (.v true .non) (a0 :: a1 :: a2 :: a3 :: a4 :: a5 :: a6 :: a7 :: a8 :: a9 :: a10 :: a11 :: some (.ow k (fr && f) (ds ++ [d])) :: ρ)) := rfl
@[simp ↓] theorem yar12 {a0 a1 a2 a3 a4 a5 a6 a7 a8 a9 a10 a11 : Option Cel} {d : List D} {k : Option Nat} {ds : List D} : kApp 12 (.f f d) (a0 :: a1 :: a2 :: a3 :: a4 :: a5 :: a6 :: a7 :: a8 :: a9 :: a10 :: a11 :: some (.ow k fr ds) :: ρ) P = (ds.length < sizeLine ∧ P (.v true .non) (a0 :: a1 :: a2 :: a3 :: a4 :: a5 :: a6 :: a7 :: a8 :: a9 :: a10 :: a11 :: some (.ow k (fr && f) (ds ++ [.lst d])) :: ρ)) := rfl
@[simp ↓] theorem ypo12 {a0 a1 a2 a3 a4 a5 a6 a7 a8 a9 a10 a11 : Option Cel} {k : Option Nat} {ds : List D} : pPop 12 (a0 :: a1 :: a2 :: a3 :: a4 :: a5 :: a6 :: a7 :: a8 :: a9 :: a10 :: a11 :: some (.ow k fr ds) :: ρ) P = (∃ d, ds[ds.length - 1]? = some d ∧ P (.v fr d) (a0 :: a1 :: a2 :: a3 :: a4 :: a5 :: a6 :: a7 :: a8 :: a9 :: a10 :: a11 :: some (.ow k fr ds.dropLast) :: ρ)) := rfl
@[simp ↓] theorem ypa12 {a0 a1 a2 a3 a4 a5 a6 a7 a8 a9 a10 a11 : Option Cel} {k : Option Nat} {ds : List D} : pPopAt 12 pa (a0 :: a1 :: a2 :: a3 :: a4 :: a5 :: a6 :: a7 :: a8 :: a9 :: a10 :: a11 :: some (.ow k fr ds) :: ρ) P = pa (a0 :: a1 :: a2 :: a3 :: a4 :: a5 :: a6 :: a7 :: a8 :: a9 :: a10 :: a11 :: some (.ow k fr ds) :: ρ) fun y ρ1 => kPopAt 12 y ρ1 P := rfl
@[simp ↓] theorem ykp12 {a0 a1 a2 a3 a4 a5 a6 a7 a8 a9 a10 a11 : Option Cel} {k : Option Nat} {ds : List D} {z : Int} : kPopAt 12 (.v g (.int z)) (a0 :: a1 :: a2 :: a3 :: a4 :: a5 :: a6 :: a7 :: a8 :: a9 :: a10 :: a11 :: some (.ow k fr ds) :: ρ) P = (-(2 ^ 63) ≤ z ∧ z < 2 ^ 63 ∧ ∃ j d, ixN ds.length z = some j ∧ ds[j]? = some d ∧ P (.v fr d) (a0 :: a1 :: a2 :: a3 :: a4 :: a5 :: a6 :: a7 :: a8 :: a9 :: a10 :: a11 :: some (.ow k fr (ds.eraseIdx j)) :: ρ)) := rfl
@[simp ↓] theorem yse12 {a0 a1 a2 a3 a4 a5 a6 a7 a8 a9 a10 a11 : Option Cel} {d : D} {k : Option Nat} {ds : List D} : gSet 12 pa (.v f d) (a0 :: a1 :: a2 :: a3 :: a4 :: a5 :: a6 :: a7 :: a8 :: a9 :: a10 :: a11 :: some (.ow k fr ds) :: ρ) C = pa (a0 :: a1 :: a2 :: a3 :: a4 :: a5 :: a6 :: a7 :: a8 :: a9 :: a10 :: a11 :: some (.ow k fr ds) :: ρ) fun y ρ1 => kSet 12 f d y ρ1 C := rfl
@[simp ↓] theorem ysk12 {a0 a1 a2 a3 a4 a5 a6 a7 a8 a9 a10 a11 : Option Cel} {d : D} {k : Option Nat} {ds : List D} {z : Int} : kSet 12 f d (.v g (.int z)) (a0 :: a1 :: a2 :: a3 :: a4 :: a5 :: a6 :: a7 :: a8 :: a9 :: a10 :: a11 :: some (.ow k fr ds) :: ρ) C = (∃ j, ixN ds.length z = some j ∧ C (a0 :: a1 :: a2 :: a3 :: a4 :: a5 :: a6 :: a7 :: a8 :: a9 :: a10 :: a11 :: some (.ow k (fr && f) (ds.set j d)) :: ρ)) := rfl
@[simp ↓] theorem yvs13 {a0 a1 a2 a3 a4 a5 a6 a7 a8 a9 a10 a11 a12 : Option Cel} {d : D} : pVar 13 (a0 :: a1 :: a2 :: a3 :: a4 :: a5 :: a6 :: a7 :: a8 :: a9 :: a10 :: a11 :: a12 :: some (.sh fr d) :: ρ) P = P (.v fr d) (a0 :: a1 :: a2 :: a3 :: a4 :: a5 :: a6 :: a7 :: a8 :: a9 :: a10 :: a11 :: a12 :: some (.sh fr d) :: ρ) := rfl
@[simp ↓] theorem yvo13 {a0 a1 a2 a3 a4 a5 a6 a7 a8 a9 a10 a11 a12 : Option Cel} {k : Option Nat} {ds : List D} : pVar 13 (a0 :: a1 :: a2 :: a3 :: a4 :: a5 :: a6 :: a7 :: a8 :: a9 :: a10 :: a11 :: a12 :: some (.ow k fr ds) :: ρ) P = P (.s 13) (a0 :: a1 :: a2 :: a3 :: a4 :: a5 :: a6 :: a7 :: a8 :: a9 :: a10 :: a11 :: a12 :: some (.ow k fr ds) :: ρ) := rfl
@[simp ↓] theorem ygv13 {a0 a1 a2 a3 a4 a5 a6 a7 a8 a9 a10 a11 a12 : Option Cel} {c : Option Cel} {d : D} : gN 13 (.v fr d) (a0 :: a1 :: a2 :: a3 :: a4 :: a5 :: a6 :: a7 :: a8 :: a9 :: a10 :: a11 :: a12 :: c :: ρ) C = C (a0 :: a1 :: a2 :: a3 :: a4 :: a5 :: a6 :: a7 :: a8 :: a9 :: a10 :: a11 :: a12 :: some (.sh fr d) :: ρ) := propext ⟨fun h => h.2, fun h => ⟨by simp, h⟩⟩
@[simp ↓] theorem ygf13 {a0 a1 a2 a3 a4 a5 a6 a7 a8 a9 a10 a11 a12 : Option Cel} {c : Option Cel} {d : List D} : gN 13 (.f fr d) (a0 :: a1 :: a2 :: a3 :: a4 :: a5 :: a6 :: a7 :: a8 :: a9 :: a10 :: a11 :: a12 :: c :: ρ) C = C (a0 :: a1 :: a2 :: a3 :: a4 :: a5 :: a6 :: a7 :: a8 :: a9 :: a10 :: a11 :: a12 :: some (.ow none fr d) :: ρ) := propext ⟨fun h => h.2, fun h => ⟨by simp, h⟩⟩
@[simp ↓] theorem yrs13 {a0 a1 a2 a3 a4 a5 a6 a7 a8 a9 a10 a11 a12 : Option Cel} {c : Cel} : res (a0 :: a1 :: a2 :: a3 :: a4 :: a5 :: a6 :: a7 :: a8 :: a9 :: a10 :: a11 :: a12 :: some c :: ρ) (.s 13) = c.rd := rfl
@[simp ↓] theorem yrt13 {a0 a1 a2 a3 a4 a5 a6 a7 a8 a9 a10 a11 a12 : Option Cel} {c : Cel} : resT (a0 :: a1 :: a2 :: a3 :: a4 :: a5 :: a6 :: a7 :: a8 :: a9 :: a10 :: a11 :: a12 :: some c :: ρ) (.s 13) = some c.dat := rfl
@[simp ↓] theorem yvt13 {a0 a1 a2 a3 a4 a5 a6 a7 a8 a9 a10 a11 a12 : Option Cel} {pp : Bool} {td : D} : pVar 13 (a0 :: a1 :: a2 :: a3 :: a4 :: a5 :: a6 :: a7 :: a8 :: a9 :: a10 :: a11 :: a12 :: some (.tr pp td) :: ρ) P = P (.s 13) (a0 :: a1 :: a2 :: a3 :: a4 :: a5 :: a6 :: a7 :: a8 :: a9 :: a10 :: a11 :: a12 :: some (.tr pp td) :: ρ) := rfl
@[simp ↓] theorem ypu13 {a0 a1 a2 a3 a4 a5 a6 a7 a8 a9 a10 a11 a12 : Option Cel} {pp : Bool} {td : D} : put (a0 :: a1 :: a2 :: a3 :: a4 :: a5 :: a6 :: a7 :: a8 :: a9 :: a10 :: a11 :: a12 :: some (.tr pp td) :: ρ) (.s 13) = (a0 :: a1 :: a2 :: a3 :: a4 :: a5 :: a6 :: a7 :: a8 :: a9 :: a10 :: a11 :: a12 :: some (.sh (!pp) td) :: ρ) := rfl
@[simp ↓] theorem yrf13 {a0 a1 a2 a3 a4 a5 a6 a7 a8 a9 a10 a11 a12 : Option Cel} {c : Cel} : resF (a0 :: a1 :: a2 :: a3 :: a4 :: a5 :: a6 :: a7 :: a8 :: a9 :: a10 :: a11 :: a12 :: some c :: ρ) (.s 13) = c.frs := rfl
@[simp ↓] theorem ypt13 {a0 a1 a2 a3 a4 a5 a6 a7 a8 a9 a10 a11 a12 : Option Cel} {k : Option Nat} {ds : List D} : put (a0 :: a1 :: a2 :: a3 :: a4 :: a5 :: a6 :: a7 :: a8 :: a9 :: a10 :: a11 :: a12 :: some (.ow k fr ds) :: ρ) (.s 13) = (a0 :: a1 :: a2 :: a3 :: a4 :: a5 :: a6 :: a7 :: a8 :: a9 :: a10 :: a11 :: a12 :: some (.sh fr (.lst ds)) :: ρ) := rfl
@[simp ↓] theorem yps13 {a0 a1 a2 a3 a4 a5 a6 a7 a8 a9 a10 a11 a12 : Option Cel} {d : D} : put (a0 :: a1 :: a2 :: a3 :: a4 :: a5 :: a6 :: a7 :: a8 :: a9 :: a10 :: a11 :: a12 :: some (.sh fr d) :: ρ) (.s 13) = (a0 :: a1 :: a2 :: a3 :: a4 :: a5 :: a6 :: a7 :: a8 :: a9 :: a10 :: a11 :: a12 :: some (.sh fr d) :: ρ) := rfl
@[simp] theorem ycm13 {a0 a1 a2 a3 a4 a5 a6 a7 a8 a9 a10 a11 a12 : Option Cel} {n : Nat} {S : Spec'} {xs : List Val} {us : List D} {k : Option Nat} {ds : List D} : kCall n (some 0) S (.s 13 :: xs) (some us) (a0 :: a1 :: a2 :: a3 :: a4 :: a5 :: a6 :: a7 :: a8 :: a9 :: a10 :: a11 :: a12 :: some (.ow k fr ds) :: ρ) P = (us.length = n ∧ (imms ds = true ∧ others 13 0 (.s 13 :: xs) = true) ∧ S us fun x cs => P x (a0 :: a1 :: a2 :: a3 :: a4 :: a5 :: a6 :: a7 :: a8 :: a9 :: a10 :: a11 :: a12 :: some (.ow k fr cs) :: ρ)) := by rw [y_kCallm (i := 13) rfl]; rfl
@[simp ↓] theorem yau13 {a0 a1 a2 a3 a4 a5 a6 a7 a8 a9 a10 a11 a12 : Option Cel} {d : D} {k : KO} : sAug 13 pa k E (a0 :: a1 :: a2 :: a3 :: a4 :: a5 :: a6 :: a7 :: a8 :: a9 :: a10 :: a11 :: a12 :: some (.sh fr d) :: ρ) = pa (a0 :: a1 :: a2 :: a3 :: a4 :: a5 :: a6 :: a7 :: a8 :: a9 :: a10 :: a11 :: a12 :: some (.sh fr d) :: ρ) fun y ρ1 => kAug 13 fr d k y ρ1 E.nx := rfl
@[simp ↓] theorem yak13 {a0 a1 a2 a3 a4 a5 a6 a7 a8 a9 a10 a11 a12 : Option Cel} {d : D} {k : KO} {y : Val} : kAug 13 fr d k y (a0 :: a1 :: a2 :: a3 :: a4 :: a5 :: a6 :: a7 :: a8 :: a9 :: a10 :: a11 :: a12 :: some (.sh fr d) :: ρ) C = k (.v fr d) y (a0 :: a1 :: a2 :: a3 :: a4 :: a5 :: a6 :: a7 :: a8 :: a9 :: a10 :: a11 :: a12 :: some (.sh fr d) :: ρ) fun z ρ2 => gN 13 z ρ2 C := propext ⟨fun h => h.2, fun h => ⟨rfl, h⟩⟩
@[simp ↓] theorem yap13 {a0 a1 a2 a3 a4 a5 a6 a7 a8 a9 a10 a11 a12 : Option Cel} {k : Option Nat} {ds : List D} : pAppend 13 pa (a0 :: a1 :: a2 :: a3 :: a4 :: a5 :: a6 :: a7 :: a8 :: a9 :: a10 :: a11 :: a12 :: some (.ow k fr ds) :: ρ) P = pa (a0 :: a1 :: a2 :: a3 :: a4 :: a5 :: a6 :: a7 :: a8 :: a9 :: a10 :: a11 :: a12 :: some (.ow k fr ds) :: ρ) fun y ρ1 => kApp 13 y ρ1 P := rfl
@[simp ↓] theorem yaq13 {a0 a1 a2 a3 a4 a5 a6 a7 a8 a9 a10 a11 a12 : Option Cel} {d : D} {k : Option Nat} {ds : List D} : kApp 13 (.v f d) (a0 :: a1 :: a2 :: a3 :: a4 :: a5 :: a6 :: a7 :: a8 :: a9 :: a10 :: a11 :: a12 :: some (.ow k fr ds) :: ρ) P = (ds.length < sizeLine ∧ P (.v true .non) (a0 :: a1 :: a2 :: a3 :: a4 :: a5 :: a6 :: a7 :: a8 :: a9 :: a10 :: a11 :: a12 :: some (.ow k (fr && f) (ds ++ [d])) :: ρ)) := rfl
@[simp ↓] theorem yar13 {a0 a1 a2 a3 a4 a5 a6 a7 a8 a9 a10 a11 a12 : Option Cel} {d : List D} {k : Option Nat} {ds : List D} : kApp 13 (.f f d) (a0 :: a1 :: a2 :: a3 :: a4 :: a5 :: a6 :: a7 :: a8 :: a9 :: a10 :: a11 :: a12 :: some (.ow k fr ds) :: ρ) P = (ds.length < sizeLine ∧ P (.v true .non) (a0 :: a1 :: a2 :: a3 :: a4 :: a5 :: a6 :: a7 :: a8 :: a9 :: a10 :: a11 :: a12 :: some (.ow k (fr && f) (ds ++ [.lst d])) :: ρ)) := rfl
@[simp ↓] theorem ypo13 {a0 a1 a2 a3 a4 a5 a6 a7 a8 a9 a10 a11 a12 : Option Cel} {k : Option Nat} {ds : List D} : pPop 13 (a0 :: a1 :: a2 :: a3 :: a4 :: a5 :: a6 :: a7 :: a8 :: a9 :: a10 :: a11 :: a12 :: some (.ow k fr ds) :: ρ) P = (∃ d, ds[ds.length - 1]? = some d ∧ P (.v fr d) (a0 :: a1 :: a2 :: a3 :: a4 :: a5 :: a6 :: a7 :: a8 :: a9 :: a10 :: a11 :: a12 :: some (.ow k fr ds.dropLast) :: ρ)) := rfl
@[simp ↓] theorem ypa13 {a0 a1 a2 a3 a4 a5 a6 a7 a8 a9 a10 a11 a12 : Option Cel} {k : Option Nat} {ds : List D} : pPopAt 13 pa (a0 :: a1 :: a2 :: a3 :: a4 :: a5 :: a6 :: a7 :: a8 :: a9 :: a10 :: a11 :: a12 :: some (.ow k fr ds) :: ρ) P = pa (a0 :: a1 :: a2 :: a3 :: a4 :: a5 :: a6 :: a7 :: a8 :: a9 :: a10 :: a11 :: a12 :: some (.ow k fr ds) :: ρ) fun y ρ1 => kPopAt 13 y ρ1 P := rfl
@[simp ↓] theorem ykp13 {a0 a1 a2 a3 a4 a5 a6 a7 a8 a9 a10 a11 a12 : Option Cel} {k : Option Nat} {ds : List D} {z : Int} : kPopAt 13 (.v g (.int z)) (a0 :: a1 :: a2 :: a3 :: a4 :: a5 :: a6 :: a7 :: a8 :: a9 :: a10 :: a11 :: a12 :: some (.ow k fr ds) :: ρ) P = (-(2 ^ 63) ≤ z ∧ z < 2 ^ 63 ∧ ∃ j d, ixN ds.length z = some j ∧ ds[j]? = some d ∧ P (.v fr d) (a0 :: a1 :: a2 :: a3 :: a4 :: a5 :: a6 :: a7 :: a8 :: a9 :: a10 :: a11 :: a12 :: some (.ow k fr (ds.eraseIdx j)) :: ρ)) := rfl
@[simp ↓] theorem yse13 {a0 a1 a2 a3 a4 a5 a6 a7 a8 a9 a10 a11 a12 : Option Cel} {d : D} {k : Option Nat} {ds : List D} : gSet 13 pa (.v f d) (a0 :: a1 :: a2 :: a3 :: a4 :: a5 :: a6 :: a7 :: a8 :: a9 :: a10 :: a11 :: a12 :: some (.ow k fr ds) :: ρ) C = pa (a0 :: a1 :: a2 :: a3 :: a4 :: a5 :: a6 :: a7 :: a8 :: a9 :: a10 :: a11 :: a12 :: some (.ow k fr ds) :: ρ) fun y ρ1 => kSet 13 f d y ρ1 C := rfl
@[simp ↓] theorem ysk13 {a0 a1 a2 a3 a4 a5 a6 a7 a8 a9 a10 a11 a12 : Option Cel} {d : D} {k : Option Nat} {ds : List D} {z : Int} : kSet 13 f d (.v g (.int z)) (a0 :: a1 :: a2 :: a3 :: a4 :: a5 :: a6 :: a7 :: a8 :: a9 :: a10 :: a11 :: a12 :: some (.ow k fr ds) :: ρ) C = (∃ j, ixN ds.length z = some j ∧ C (a0 :: a1 :: a2 :: a3 :: a4 :: a5 :: a6 :: a7 :: a8 :: a9 :: a10 :: a11 :: a12 :: some (.ow k (fr && f) (ds.set j d)) :: ρ)) := rfl
@[simp ↓] theorem yvs14 {a0 a1 a2 a3 a4 a5 a6 a7 a8 a9 a10 a11 a12 a13 : Option Cel} {d : D} : pVar 14 (a0 :: a1 :: a2 :: a3 :: a4 :: a5 :: a6 :: a7 :: a8 :: a9 :: a10 :: a11 :: a12 :: a13 :: some (.sh fr d) :: ρ) P = P (.v fr d) (a0 :: a1 :: a2 :: a3 :: a4 :: a5 :: a6 :: a7 :: a8 :: a9 :: a10 :: a11 :: a12 :: a13 :: some (.sh fr d) :: ρ) := rfl
@[simp ↓] theorem yvo14 {a0 a1 a2 a3 a4 a5 a6 a7 a8 a9 a10 a11 a12 a13 : Option Cel} {k : Option Nat} {ds : List D} : pVar 14 (a0 :: a1 :: a2 :: a3 :: a4 :: a5 :: a6 :: a7 :: a8 :: a9 :: a10 :: a11 :: a12 :: a13 :: some (.ow k fr ds) :: ρ) P = P (.s 14) (a0 :: a1 :: a2 :: a3 :: a4 :: a5 :: a6 :: a7 :: a8 :: a9 :: a10 :: a11 :: a12 :: a13 :: some (.ow k fr ds) :: ρ) := rfl
@[simp ↓] theorem ygv14 {a0 a1 a2 a3 a4 a5 a6 a7 a8 a9 a10 a11 a12 a13 : Option Cel} {c : Option Cel} {d : D} : gN 14 (.v fr d) (a0 :: a1 :: a2 :: a3 :: a4 :: a5 :: a6 :: a7 :: a8 :: a9 :: a10 :: a11 :: a12 :: a13 :: c :: ρ) C = C (a0 :: a1 :: a2 :: a3 :: a4 :: a5 :: a6 :: a7 :: a8 :: a9 :: a10 :: a11 :: a12 :: a13 :: some (.sh fr d) :: ρ) := propext ⟨fun h => h.2, fun h => ⟨by simp, h⟩⟩
@[simp ↓] theorem ygf14 {a0 a1 a2 a3 a4 a5 a6 a7 a8 a9 a10 a11 a12 a13 : Option Cel} {c : Option Cel} {d : List D} : gN 14 (.f fr d) (a0 :: a1 :: a2 :: a3 :: a4 :: a5 :: a6 :: a7 :: a8 :: a9 :: a10 :: a11 :: a12 :: a13 :: c :: ρ) C = C (a0 :: a1 :: a2 :: a3 :: a4 :: a5 :: a6 :: a7 :: a8 :: a9 :: a10 :: a11 :: a12 :: a13 :: some (.ow none fr d) :: ρ) := propext ⟨fun h => h.2, fun h => ⟨by simp, h⟩⟩
@[simp ↓] theorem yrs14 {a0 a1 a2 a3 a4 a5 a6 a7 a8 a9 a10 a11 a12 a13 : Option Cel} {c : Cel} : res (a0 :: a1 :: a2 :: a3 :: a4 :: a5 :: a6 :: a7 :: a8 :: a9 :: a10 :: a11 :: a12 :: a13 :: some c :: ρ) (.s 14) = c.rd := rfl
@[simp ↓] theorem yrt14 {a0 a1 a2 a3 a4 a5 a6 a7 a8 a9 a10 a11 a12 a13 : Option Cel} {c : Cel} : resT (a0 :: a1 :: a2 :: a3 :: a4 :: a5 :: a6 :: a7 :: a8 :: a9 :: a10 :: a11 :: a12 :: a13 :: some c :: ρ) (.s 14) = some c.dat := rfl
@[simp ↓] theorem yvt14 {a0 a1 a2 a3 a4 a5 a6 a7 a8 a9 a10 a11 a12 a13 : Option Cel} {pp : Bool} {td : D} : pVar 14 (a0 :: a1 :: a2 :: a3 :: a4 :: a5 :: a6 :: a7 :: a8 :: a9 :: a10 :: a11 :: a12 :: a13 :: some (.tr pp td) :: ρ) P = P (.s 14) (a0 :: a1 :: a2 :: a3 :: a4 :: a5 :: a6 :: a7 :: a8 :: a9 :: a10 :: a11 :: a12 :: a13 :: some (.tr pp td) :: ρ) := rfl
@[simp ↓] theorem ypu14 {a0 a1 a2 a3 a4 a5 a6 a7 a8 a9 a10 a11 a12 a13 : Option Cel} {pp : Bool} {td : D} : put (a0 :: a1 :: a2 :: a3 :: a4 :: a5 :: a6 :: a7 :: a8 :: a9 :: a10 :: a11 :: a12 :: a13 :: some (.tr pp td) :: ρ) (.s 14) = (a0 :: a1 :: a2 :: a3 :: a4 :: a5 :: a6 :: a7 :: a8 :: a9 :: a10 :: a11 :: a12 :: a13 :: some (.sh (!pp) td) :: ρ) := rfl
@[simp ↓] theorem yrf14 {a0 a1 a2 a3 a4 a5 a6 a7 a8 a9 a10 a11 a12 a13 : Option Cel} {c : Cel} : resF (a0 :: a1 :: a2 :: a3 :: a4 :: a5 :: a6 :: a7 :: a8 :: a9 :: a10 :: a11 :: a12 :: a13 :: some c :: ρ) (.s 14) = c.frs := rfl
@[simp ↓] theorem ypt14 {a0 a1 a2 a3 a4 a5 a6 a7 a8 a9 a10 a11 a12 a13 : Option Cel} {k : Option Nat} {ds : List D} : put (a0 :: a1 :: a2 :: a3 :: a4 :: a5 :: a6 :: a7 :: a8 :: a9 :: a10 :: a11 :: a12 :: a13 :: some (.ow k fr ds) :: ρ) (.s 14) = (a0 :: a1 :: a2 :: a3 :: a4 :: a5 :: a6 :: a7 :: a8 :: a9 :: a10 :: a11 :: a12 :: a13 :: some (.sh fr (.lst ds)) :: ρ) := rfl
@[simp ↓] theorem yps14 {a0 a1 a2 a3 a4 a5 a6 a7 a8 a9 a10 a11 a12 a13 : Option Cel} {d : D} : put (a0 :: a1 :: a2 :: a3 :: a4 :: a5 :: a6 :: a7 :: a8 :: a9 :: a10 :: a11 :: a12 :: a13 :: some (.sh fr d) :: ρ) (.s 14) = (a0 :: a1 :: a2 :: a3 :: a4 :: a5 :: a6 :: a7 :: a8 :: a9 :: a10 :: a11 :: a12 :: a13 :: some (.sh fr d) :: ρ) := rfl
@[simp] theorem ycm14 {a0 a1 a2 a3 a4 a5 a6 a7 a8 a9 a10 a11 a12 a13 : Option Cel} {n : Nat} {S : Spec'} {xs : List Val} {us : List D} {k : Option Nat} {ds : List D} : kCall n (some 0) S (.s 14 :: xs) (some us) (a0 :: a1 :: a2 :: a3 :: a4 :: a5 :: a6 :: a7 :: a8 :: a9 :: a10 :: a11 :: a12 :: a13 :: some (.ow k fr ds) :: ρ) P = (us.length = n ∧ (imms ds = true ∧ others 14 0 (.s 14 :: xs) = true) ∧ S us fun x cs => P x (a0 :: a1 :: a2 :: a3 :: a4 :: a5 :: a6 :: a7 :: a8 :: a9 :: a10 :: a11 :: a12 :: a13 :: some (.ow k fr cs) :: ρ)) := by rw [y_kCallm (i := 14) rfl]; rfl
@[simp ↓] theorem yau14 {a0 a1 a2 a3 a4 a5 a6 a7 a8 a9 a10 a11 a12 a13 : Option Cel} {d : D} {k : KO} : sAug 14 pa k E (a0 :: a1 :: a2 :: a3 :: a4 :: a5 :: a6 :: a7 :: a8 :: a9 :: a10 :: a11 :: a12 :: a13 :: some (.sh fr d) :: ρ) = pa (a0 :: a1 :: a2 :: a3 :: a4 :: a5 :: a6 :: a7 :: a8 :: a9 :: a10 :: a11 :: a12 :: a13 :: some (.sh fr d) :: ρ) fun y ρ1 => kAug 14 fr d k y ρ1 E.nx := rfl
@[simp ↓] theorem yak14 {a0 a1 a2 a3 a4 a5 a6 a7 a8 a9 a10 a11 a12 a13 : Option Cel} {d : D} {k : KO} {y : Val} : kAug 14 fr d k y (a0 :: a1 :: a2 :: a3 :: a4 :: a5 :: a6 :: a7 :: a8 :: a9 :: a10 :: a11 :: a12 :: a13 :: some (.sh fr d) :: ρ) C = k (.v fr d) y (a0 :: a1 :: a2 :: a3 :: a4 :: a5 :: a6 :: a7 :: a8 :: a9 :: a10 :: a11 :: a12 :: a13 :: some (.sh fr d) :: ρ) fun z ρ2 => gN 14 z ρ2 C := propext ⟨fun h => h.2, fun h => ⟨rfl, h⟩⟩
@[simp ↓] theorem yap14 {a0 a1 a2 a3 a4 a5 a6 a7 a8 a9 a10 a11 a12 a13 : Option Cel} {k : Option Nat} {ds : List D} : pAppend 14 pa (a0 :: a1 :: a2 :: a3 :: a4 :: a5 :: a6 :: a7 :: a8 :: a9 :: a10 :: a11 :: a12 :: a13 :: some (.ow k fr ds) :: ρ) P = pa (a0 :: a1 :: a2 :: a3 :: a4 :: a5 :: a6 :: a7 :: a8 :: a9 :: a10 :: a11 :: a12 :: a13 :: some (.ow k fr ds) :: ρ) fun y ρ1 => kApp 14 y ρ1 P := rfl
@[simp ↓] theorem yaq14 {a0 a1 a2 a3 a4 a5 a6 a7 a8 a9 a10 a11 a12 a13 : Option Cel} {d : D} {k : Option Nat} {ds : List D} : kApp 14 (.v f d) (a0 :: a1 :: a2 :: a3 :: a4 :: a5 :: a6 :: a7 :: a8 :: a9 :: a10 :: a11 :: a12 :: a13 :: some (.ow k fr ds) :: ρ) P = (ds.length < sizeLine ∧ P (.v true .non) (a0 :: a1 :: a2 :: a3 :: a4 :: a5 :: a6 :: a7 :: a8 :: a9 :: a10 :: a11 :: a12 :: a13 :: some (.ow k (fr && f) (ds ++ [d])) :: ρ)) := rfl
@[simp ↓] theorem yar14 {a0 a1 a2 a3 a4 a5 a6 a7 a8 a9 a10 a11 a12 a13 : Option Cel} {d : List D} {k : Option Nat} {ds : List D} : kApp 14 (.f f d) (a0 :: a1 :: a2 :: a3 :: a4 :: a5 :: a6 :: a7 :: a8 :: a9 :: a10 :: a11 :: a12 :: a13 :: some (.ow k fr ds) :: ρ) P = (ds.length < sizeLine ∧ P (.v true .non) (a0 :: a1 :: a2 :: a3 :: a4 :: a5 :: a6 :: a7 :: a8 :: a9 :: a10 :: a11 :: a12 :: a13 :: some (.ow k (fr && f) (ds ++ [.lst d])) :: ρ)) := rfl
@[simp ↓] theorem ypo14 {a0 a1 a2 a3 a4 a5 a6 a7 a8 a9 a10 a11 a12 a13 : Option Cel} {k : Option Nat} {ds : List D} : pPop 14 (a0 :: a1 :: a2 :: a3 :: a4 :: a5 :: a6 :: a7 :: a8 :: a9 :: a10 :: a11 :: a12 :: a13 :: some (.ow k fr ds) :: ρ) P = (∃ d, ds[ds.length - 1]? = some d ∧ P (.v fr d) (a0 :: a1 :: a2 :: a3 :: a4 :: a5 :: a6 :: a7 :: a8 :: a9 :: a10 :: a11 :: a12 :: a13 :: some (.ow k fr ds.dropLast) :: ρ)) := rfl
@[simp ↓] theorem ypa14 {a0 a1 a2 a3 a4 a5 a6 a7 a8 a9 a10 a11 a12 a13 : Option Cel} {k : Option Nat} {ds : List D} : pPopAt 14 pa (a0 :: a1 :: a2 :: a3 :: a4 :: a5 :: a6 :: a7 :: a8 :: a9 :: a10 :: a11 :: a12 :: a13 :: some (.ow k fr ds) :: ρ) P = pa (a0 :: a1 :: a2 :: a3 :: a4 :: a5 :: a6 :: a7 :: a8 :: a9 :: a10 :: a11 :: a12 :: a13 :: some (.ow k fr ds) :: ρ) fun y ρ1 => kPopAt 14 y ρ1 P := rfl
@[simp ↓] theorem ykp14 {a0 a1 a2 a3 a4 a5 a6 a7 a8 a9 a10 a11 a12 a13 : Option Cel} {k : Option Nat} {ds : List D} {z : Int} : kPopAt 14 (.v g (.int z)) (a0 :: a1 :: a2 :: a3 :: a4 :: a5 :: a6 :: a7 :: a8 :: a9 :: a10 :: a11 :: a12 :: a13 :: some (.ow k fr ds) :: ρ) P = (-(2 ^ 63) ≤ z ∧ z < 2 ^ 63 ∧ ∃ j d, ixN ds.length z = some j ∧ ds[j]? = some d ∧ P (.v fr d) (a0 :: a1 :: a2 :: a3 :: a4 :: a5 :: a6 :: a7 :: a8 :: a9 :: a10 :: a11 :: a12 :: a13 :: some (.ow k fr (ds.eraseIdx j)) :: ρ)) := rfl
@[simp ↓] theorem yse14 {a0 a1 a2 a3 a4 a5 a6 a7 a8 a9 a10 a11 a12 a13 : Option Cel} {d : D} {k : Option Nat} {ds : List D} : gSet 14 pa (.v f d) (a0 :: a1 :: a2 :: a3 :: a4 :: a5 :: a6 :: a7 :: a8 :: a9 :: a10 :: a11 :: a12 :: a13 :: some (.ow k fr ds) :: ρ) C = pa (a0 :: a1 :: a2 :: a3 :: a4 :: a5 :: a6 :: a7 :: a8 :: a9 :: a10 :: a11 :: a12 :: a13 :: some (.ow k fr ds) :: ρ) fun y ρ1 => kSet 14 f d y ρ1 C := rfl
@[simp ↓] theorem ysk14 {a0 a1 a2 a3 a4 a5 a6 a7 a8 a9 a10 a11 a12 a13 : Option Cel} {d : D} {k : Option Nat} {ds : List D} {z : Int} : kSet 14 f d (.v g (.int z)) (a0 :: a1 :: a2 :: a3 :: a4 :: a5 :: a6 :: a7 :: a8 :: a9 :: a10 :: a11 :: a12 :: a13 :: some (.ow k fr ds) :: ρ) C = (∃ j, ixN ds.length z = some j ∧ C (a0 :: a1 :: a2 :: a3 :: a4 :: a5 :: a6 :: a7 :: a8 :: a9 :: a10 :: a11 :: a12 :: a13 :: some (.ow k (fr && f) (ds.set j d)) :: ρ)) := rfl
@[simp ↓] theorem yvs15 {a0 a1 a2 a3 a4 a5 a6 a7 a8 a9 a10 a11 a12 a13 a14 : Option Cel} {d : D} : pVar 15 (a0 :: a1 :: a2 :: a3 :: a4 :: a5 :: a6 :: a7 :: a8 :: a9 :: a10 :: a11 :: a12 :: a13 :: a14 :: some (.sh fr d) :: ρ) P = P (.v fr d) (a0 :: a1 :: a2 :: a3 :: a4 :: a5 :: a6 :: a7 :: a8 :: a9 :: a10 :: a11 :: a12 :: a13 :: a14 :: some (.sh fr d) :: ρ) := rfl
@[simp ↓] theorem yvo15 {a0 a1 a2 a3 a4 a5 a6 a7 a8 a9 a10 a11 a12 a13 a14 : Option Cel} {k : Option Nat} {ds : List D} : pVar 15 (a0 :: a1 :: a2 :: a3 :: a4 :: a5 :: a6 :: a7 :: a8 :: a9 :: a10 :: a11 :: a12 :: a13 :: a14 :: some (.ow k fr ds) :: ρ) P = P (.s 15) (a0 :: a1 :: a2 :: a3 :: a4 :: a5 :: a6 :: a7 :: a8 :: a9 :: a10 :: a11 :: a12 :: a13 :: a14 :: some (.ow k fr ds) :: ρ) := rfl
@[simp ↓] theorem ygv15 {a0 a1 a2 a3 a4 a5 a6 a7 a8 a9 a10 a11 a12 a13 a14 : Option Cel} {c : Option Cel} {d : D} : gN 15 (.v fr d) (a0 :: a1 :: a2 :: a3 :: a4 :: a5 :: a6 :: a7 :: a8 :: a9 :: a10 :: a11 :: a12 :: a13 :: a14 :: c :: ρ) C = C (a0 :: a1 :: a2 :: a3 :: a4 :: a5 :: a6 :: a7 :: a8 :: a9 :: a10 :: a11 :: a12 :: a13 :: a14 :: some (.sh fr d) :: ρ) := propext ⟨fun h => h.2, fun h => ⟨by simp, h⟩⟩
@[simp ↓] theorem ygf15 {a0 a1 a2 a3 a4 a5 a6 a7 a8 a9 a10 a11 a12 a13 a14 : Option Cel} {c : Option Cel} {d : List D} : gN 15 (.f fr d) (a0 :: a1 :: a2 :: a3 :: a4 :: a5 :: a6 :: a7 :: a8 :: a9 :: a10 :: a11 :: a12 :: a13 :: a14 :: c :: ρ) C = C (a0 :: a1 :: a2 :: a3 :: a4 :: a5 :: a6 :: a7 :: a8 :: a9 :: a10 :: a11 :: a12 :: a13 :: a14 :: some (.ow none fr d) :: ρ) := propext ⟨fun h => h.2, fun h => ⟨by simp, h⟩⟩
@[simp ↓] theorem yrs15 {a0 a1 a2 a3 a4 a5 a6 a7 a8 a9 a10 a11 a12 a13 a14 : Option Cel} {c : Cel} : res (a0 :: a1 :: a2 :: a3 :: a4 :: a5 :: a6 :: a7 :: a8 :: a9 :: a10 :: a11 :: a12 :: a13 :: a14 :: some c :: ρ) (.s 15) = c.rd := rfl
@[simp ↓] theorem yrt15 {a0 a1 a2 a3 a4 a5 a6 a7 a8 a9 a10 a11 a12 a13 a14 : Option Cel} {c : Cel} : resT (a0 :: a1 :: a2 :: a3 :: a4 :: a5 :: a6 :: a7 :: a8 :: a9 :: a10 :: a11 :: a12 :: a13 :: a14 :: some c :: ρ) (.s 15) = some c.dat := rfl
@[simp ↓] theorem yvt15 {a0 a1 a2 a3 a4 a5 a6 a7 a8 a9 a10 a11 a12 a13 a14 : Option Cel} {pp : Bool} {td : D} : pVar 15 (a0 :: a1 :: a2 :: a3 :: a4 :: a5 :: a6 :: a7 :: a8 :: a9 :: a10 :: a11 :: a12 :: a13 :: a14 :: some (.tr pp td) :: ρ) P = P (.s 15) (a0 :: a1 :: a2 :: a3 :: a4 :: a5 :: a6 :: a7 :: a8 :: a9 :: a10 :: a11 :: a12 :: a13 :: a14 :: some (.tr pp td) :: ρ) := rfl
@[simp ↓] theorem ypu15 {a0 a1 a2 a3 a4 a5 a6 a7 a8 a9 a10 a11 a12 a13 a14 : Option Cel} {pp : Bool} {td : D} : put (a0 :: a1 :: a2 :: a3 :: a4 :: a5 :: a6 :: a7 :: a8 :: a9 :: a10 :: a11 :: a12 :: a13 :: a14 :: some (.tr pp td) :: ρ) (.s 15) = (a0 :: a1 :: a2 :: a3 :: a4 :: a5 :: a6 :: a7 :: a8 :: a9 :: a10 :: a11 :: a12 :: a13 :: a14 :: some (.sh (!pp) td) :: ρ) := rfl
@[simp ↓] theorem yrf15 {a0 a1 a2 a3 a4 a5 a6 a7 a8 a9 a10 a11 a12 a13 a14 : Option Cel} {c : Cel} : resF (a0 :: a1 :: a2 :: a3 :: a4 :: a5 :: a6 :: a7 :: a8 :: a9 :: a10 :: a11 :: a12 :: a13 :: a14 :: some c :: ρ) (.s 15) = c.frs := rfl
@[simp ↓] theorem ypt15 {a0 a1 a2 a3 a4 a5 a6 a7 a8 a9 a10 a11 a12 a13 a14 : Option Cel} {k : Option Nat} {ds : List D} : put (a0 :: a1 :: a2 :: a3 :: a4 :: a5 :: a6 :: a7 :: a8 :: a9 :: a10 :: a11 :: a12 :: a13 :: a14 :: some (.ow k fr ds) :: ρ) (.s 15) = (a0 :: a1 :: a2 :: a3 :: a4 :: a5 :: a6 :: a7 :: a8 :: a9 :: a10 :: a11 :: a12 :: a13 :: a14 :: some (.sh fr (.lst ds)) :: ρ) := rfl
@[simp ↓] theorem yps15 {a0 a1 a2 a3 a4 a5 a6 a7 a8 a9 a10 a11 a12 a13 a14 : Option Cel} {d : D} : put (a0 :: a1 :: a2 :: a3 :: a4 :: a5 :: a6 :: a7 :: a8 :: a9 :: a10 :: a11 :: a12 :: a13 :: a14 :: some (.sh fr d) :: ρ) (.s 15) = (a0 :: a1 :: a2 :: a3 :: a4 :: a5 :: a6 :: a7 :: a8 :: a9 :: a10 :: a11 :: a12 :: a13 :: a14 :: some (.sh fr d) :: ρ) := rfl
@[simp] theorem ycm15 {a0 a1 a2 a3 a4 a5 a6 a7 a8 a9 a10 a11 a12 a13 a14 : Option Cel} {n : Nat} {S : Spec'} {xs : List Val} {us : List D} {k : Option Nat} {ds : List D} : kCall n (some 0) S (.s 15 :: xs) (some us) (a0 :: a1 :: a2 :: a3 :: a4 :: a5 :: a6 :: a7 :: a8 :: a9 :: a10 :: a11 :: a12 :: a13 :: a14 :: some (.ow k fr ds) :: ρ) P = (us.length = n ∧ (imms ds = true ∧ others 15 0 (.s 15 :: xs) = true) ∧ S us fun x cs => P x (a0 :: a1 :: a2 :: a3 :: a4 :: a5 :: a6 :: a7 :: a8 :: a9 :: a10 :: a11 :: a12 :: a13 :: a14 :: some (.ow k fr cs) :: ρ)) := by rw [y_kCallm (i := 15) rfl]; rfl
@[simp ↓] theorem yau15 {a0 a1 a2 a3 a4 a5 a6 a7 a8 a9 a10 a11 a12 a13 a14 : Option Cel} {d : D} {k : KO} : sAug 15 pa k E (a0 :: a1 :: a2 :: a3 :: a4 :: a5 :: a6 :: a7 :: a8 :: a9 :: a10 :: a11 :: a12 :: a13 :: a14 :: some (.sh fr d) :: ρ) = pa (a0 :: a1 :: a2 :: a3 :: a4 :: a5 :: a6 :: a7 :: a8 :: a9 :: a10 :: a11 :: a12 :: a13 :: a14 :: some (.sh fr d) :: ρ) fun y ρ1 => kAug 15 fr d k y ρ1 E.nx := rfl
@[simp ↓] theorem yak15 {a0 a1 a2 a3 a4 a5 a6 a7 a8 a9 a10 a11 a12 a13 a14 : Option Cel} {d : D} {k : KO} {y : Val} : kAug 15 fr d k y (a0 :: a1 :: a2 :: a3 :: a4 :: a5 :: a6 :: a7 :: a8 :: a9 :: a10 :: a11 :: a12 :: a13 :: a14 :: some (.sh fr d) :: ρ) C = k (.v fr d) y (a0 :: a1 :: a2 :: a3 :: a4 :: a5 :: a6 :: a7 :: a8 :: a9 :: a10 :: a11 :: a12 :: a13 :: a14 :: some (.sh fr d) :: ρ) fun z ρ2 => gN 15 z ρ2 C := propext ⟨fun h => h.2, fun h => ⟨rfl, h⟩⟩
@[simp ↓] theorem yap15 {a0 a1 a2 a3 a4 a5 a6 a7 a8 a9 a10 a11 a12 a13 a14 : Option Cel} {k : Option Nat} {ds : List D} : pAppend 15 pa (a0 :: a1 :: a2 :: a3 :: a4 :: a5 :: a6 :: a7 :: a8 :: a9 :: a10 :: a11 :: a12 :: a13 :: a14 :: some (.ow k fr ds) :: ρ) P = pa (a0 :: a1 :: a2 :: a3 :: a4 :: a5 :: a6 :: a7 :: a8 :: a9 :: a10 :: a11 :: a12 :: a13 :: a14 :: some (.ow k fr ds) :: ρ) fun y ρ1 => kApp 15 y ρ1 P := rfl
@[simp ↓] theorem yaq15 {a0 a1 a2 a3 a4 a5 a6 a7 a8 a9 a10 a11 a12 a13 a14 : Option Cel} {d : D} {k : Option Nat} {ds : List D} : kApp 15 (.v f d) (a0 :: a1 :: a2 :: a3 :: a4 :: a5 :: a6 :: a7 :: a8 :: a9 :: a10 :: a11 :: a12 :: a13 :: a14 :: some (.ow k fr ds) :: ρ) P = (ds.length < sizeLine ∧ P (.v true .non) (a0 :: a1 :: a2 :: a3 :: a4 :: a5 :: a6 :: a7 :: a8 :: a9 :: a10 :: a11 :: a12 :: a13 :: a14 :: some (.ow k (fr && f) (ds ++ [d])) :: ρ)) := rfl
@[simp ↓] theorem yar15 {a0 a1 a2 a3 a4 a5 a6 a7 a8 a9 a10 a11 a12 a13 a14 : Option Cel} {d : List D} {k : Option Nat} {ds : List D} : kApp 15 (.f f d) (a0 :: a1 :: a2 :: a3 :: a4 :: a5 :: a6 :: a7 :: a8 :: a9 :: a10 :: a11 :: a12 :: a13 :: a14 :: some (.ow k fr ds) :: ρ) P = (ds.length < sizeLine ∧ P (.v true .non) (a0 :: a1 :: a2 :: a3 :: a4 :: a5 :: a6 :: a7 :: a8 :: a9 :: a10 :: a11 :: a12 :: a13 :: a14 :: some (.ow k (fr && f) (ds ++ [.lst d])) :: ρ)) := rfl
@[simp ↓] theorem ypo15 {a0 a1 a2 a3 a4 a5 a6 a7 a8 a9 a10 a11 a12 a13 a14 : Option Cel} {k : Option Nat} {ds : List D} : pPop 15 (a0 :: a1 :: a2 :: a3 :: a4 :: a5 :: a6 :: a7 :: a8 :: a9 :: a10 :: a11 :: a12 :: a13 :: a14 :: some (.ow k fr ds) :: ρ) P = (∃ d, ds[ds.length - 1]? = some d ∧ P (.v fr d) (a0 :: a1 :: a2 :: a3 :: a4 :: a5 :: a6 :: a7 :: a8 :: a9 :: a10 :: a11 :: a12 :: a13 :: a14 :: some (.ow k fr ds.dropLast) :: ρ)) := rfl
@[simp ↓] theorem ypa15 {a0 a1 a2 a3 a4 a5 a6 a7 a8 a9 a10 a11 a12 a13 a14 : Option Cel} {k : Option Nat} {ds : List D} : pPopAt 15 pa (a0 :: a1 :: a2 :: a3 :: a4 :: a5 :: a6 :: a7 :: a8 :: a9 :: a10 :: a11 :: a12 :: a13 :: a14 :: some (.ow k fr ds) :: ρ) P = pa (a0 :: a1 :: a2 :: a3 :: a4 :: a5 :: a6 :: a7 :: a8 :: a9 :: a10 :: a11 :: a12 :: a13 :: a14 :: some (.ow k fr ds) :: ρ) fun y ρ1 => kPopAt 15 y ρ1 P := rfl
@[simp ↓] theorem ykp15 {a0 a1 a2 a3 a4 a5 a6 a7 a8 a9 a10 a11 a12 a13 a14 : Option Cel} {k : Option Nat} {ds : List D} {z : Int} : kPopAt 15 (.v g (.int z)) (a0 :: a1 :: a2 :: a3 :: a4 :: a5 :: a6 :: a7 :: a8 :: a9 :: a10 :: a11 :: a12 :: a13 :: a14 :: some (.ow k fr ds) :: ρ) P = (-(2 ^ 63) ≤ z ∧ z < 2 ^ 63 ∧ ∃ j d, ixN ds.length z = some j ∧ ds[j]? = some d ∧ P (.v fr d) (a0 :: a1 :: a2 :: a3 :: a4 :: a5 :: a6 :: a7 :: a8 :: a9 :: a10 :: a11 :: a12 :: a13 :: a14 :: some (.ow k fr (ds.eraseIdx j)) :: ρ)) := rfl
@[simp ↓] theorem yse15 {a0 a1 a2 a3 a4 a5 a6 a7 a8 a9 a10 a11 a12 a13 a14 : Option Cel} {d : D} {k : Option Nat} {ds : List D} : gSet 15 pa (.v f d) (a0 :: a1 :: a2 :: a3 :: a4 :: a5 :: a6 :: a7 :: a8 :: a9 :: a10 :: a11 :: a12 :: a13 :: a14 :: some (.ow k fr ds) :: ρ) C = pa (a0 :: a1 :: a2 :: a3 :: a4 :: a5 :: a6 :: a7 :: a8 :: a9 :: a10 :: a11 :: a12 :: a13 :: a14 :: some (.ow k fr ds) :: ρ) fun y ρ1 => kSet 15 f d y ρ1 C := rfl
@[simp ↓] theorem ysk15 {a0 a1 a2 a3 a4 a5 a6 a7 a8 a9 a10 a11 a12 a13 a14 : Option Cel} {d : D} {k : Option Nat} {ds : List D} {z : Int} : kSet 15 f d (.v g (.int z)) (a0 :: a1 :: a2 :: a3 :: a4 :: a5 :: a6 :: a7 :: a8 :: a9 :: a10 :: a11 :: a12 :: a13 :: a14 :: some (.ow k fr ds) :: ρ) C = (∃ j, ixN ds.length z = some j ∧ C (a0 :: a1 :: a2 :: a3 :: a4 :: a5 :: a6 :: a7 :: a8 :: a9 :: a10 :: a11 :: a12 :: a13 :: a14 :: some (.ow k (fr && f) (ds.set j d)) :: ρ)) := rfl
@[simp ↓] theorem yvs16 {a0 a1 a2 a3 a4 a5 a6 a7 a8 a9 a10 a11 a12 a13 a14 a15 : Option Cel} {d : D} : pVar 16 (a0 :: a1 :: a2 :: a3 :: a4 :: a5 :: a6 :: a7 :: a8 :: a9 :: a10 :: a11 :: a12 :: a13 :: a14 :: a15 :: some (.sh fr d) :: ρ) P = P (.v fr d) (a0 :: a1 :: a2 :: a3 :: a4 :: a5 :: a6 :: a7 :: a8 :: a9 :: a10 :: a11 :: a12 :: a13 :: a14 :: a15 :: some (.sh fr d) :: ρ) := rfl
@[simp ↓] theorem yvo16 {a0 a1 a2 a3 a4 a5 a6 a7 a8 a9 a10 a11 a12 a13 a14 a15 : Option Cel} {k : Option Nat} {ds : List D} : pVar 16 (a0 :: a1 :: a2 :: a3 :: a4 :: a5 :: a6 :: a7 :: a8 :: a9 :: a10 :: a11 :: a12 :: a13 :: a14 :: a15 :: some (.ow k fr ds) :: ρ) P = P (.s 16) (a0 :: a1 :: a2 :: a3 :: a4 :: a5 :: a6 :: a7 :: a8 :: a9 :: a10 :: a11 :: a12 :: a13 :: a14 :: a15 :: some (.ow k fr ds) :: ρ) := rfl
@[simp ↓] theorem ygv16 {a0 a1 a2 a3 a4 a5 a6 a7 a8 a9 a10 a11 a12 a13 a14 a15 : Option Cel} {c : Option Cel} {d : D} : gN 16 (.v fr d) (a0 :: a1 :: a2 :: a3 :: a4 :: a5 :: a6 :: a7 :: a8 :: a9 :: a10 :: a11 :: a12 :: a13 :: a14 :: a15 :: c :: ρ) C = C (a0 :: a1 :: a2 :: a3 :: a4 :: a5 :: a6 :: a7 :: a8 :: a9 :: a10 :: a11 :: a12 :: a13 :: a14 :: a15 :: some (.sh fr d) :: ρ) := propext ⟨fun h => h.2, fun h => ⟨by simp, h⟩⟩
@[simp ↓] theorem ygf16 {a0 a1 a2 a3 a4 a5 a6 a7 a8 a9 a10 a11 a12 a13 a14 a15 : Option Cel} {c : Option Cel} {d : List D} : gN 16 (.f fr d) (a0 :: a1 :: a2 :: a3 :: a4 :: a5 :: a6 :: a7 :: a8 :: a9 :: a10 :: a11 :: a12 :: a13 :: a14 :: a15 :: c :: ρ) C = C (a0 :: a1 :: a2 :: a3 :: a4 :: a5 :: a6 :: a7 :: a8 :: a9 :: a10 :: a11 :: a12 :: a13 :: a14 :: a15 :: some (.ow none fr d) :: ρ) := propext ⟨fun h => h.2, fun h => ⟨by simp, h⟩⟩
@[simp ↓] theorem yrs16 {a0 a1 a2 a3 a4 a5 a6 a7 a8 a9 a10 a11 a12 a13 a14 a15 : Option Cel} {c : Cel} : res (a0 :: a1 :: a2 :: a3 :: a4 :: a5 :: a6 :: a7 :: a8 :: a9 :: a10 :: a11 :: a12 :: a13 :: a14 :: a15 :: some c :: ρ) (.s 16) = c.rd := rfl
@[simp ↓] theorem yrt16 {a0 a1 a2 a3 a4 a5 a6 a7 a8 a9 a10 a11 a12 a13 a14 a15 : Option Cel} {c : Cel} : resT (a0 :: a1 :: a2 :: a3 :: a4 :: a5 :: a6 :: a7 :: a8 :: a9 :: a10 :: a11 :: a12 :: a13 :: a14 :: a15 :: some c :: ρ) (.s 16) = some c.dat := rfl
@[simp ↓] theorem yvt16 {a0 a1 a2 a3 a4 a5 a6 a7 a8 a9 a10 a11 a12 a13 a14 a15 : Option Cel} {pp : Bool} {td : D} : pVar 16 (a0 :: a1 :: a2 :: a3 :: a4 :: a5 :: a6 :: a7 :: a8 :: a9 :: a10 :: a11 :: a12 :: a13 :: a14 :: a15 :: some (.tr pp td) :: ρ) P = P (.s 16) (a0 :: a1 :: a2 :: a3 :: a4 :: a5 :: a6 :: a7 :: a8 :: a9 :: a10 :: a11 :: a12 :: a13 :: a14 :: a15 :: some (.tr pp td) :: ρ) := rfl
@[simp ↓] theorem ypu16 {a0 a1 a2 a3 a4 a5 a6 a7 a8 a9 a10 a11 a12 a13 a14 a15 : Option Cel} {pp : Bool} {td : D} : put (a0 :: a1 :: a2 :: a3 :: a4 :: a5 :: a6 :: a7 :: a8 :: a9 :: a10 :: a11 :: a12 :: a13 :: a14 :: a15 :: some (.tr pp td) :: ρ) (.s 16) = (a0 :: a1 :: a2 :: a3 :: a4 :: a5 :: a6 :: a7 :: a8 :: a9 :: a10 :: a11 :: a12 :: a13 :: a14 :: a15 :: some (.sh (!pp) td) :: ρ) := rfl
@[simp ↓] theorem yrf16 {a0 a1 a2 a3 a4 a5 a6 a7 a8 a9 a10 a11 a12 a13 a14 a15 : Option Cel} {c : Cel} : resF (a0 :: a1 :: a2 :: a3 :: a4 :: a5 :: a6 :: a7 :: a8 :: a9 :: a10 :: a11 :: a12 :: a13 :: a14 :: a15 :: some c :: ρ) (.s 16) = c.frs := rfl
@[simp ↓] theorem ypt16 {a0 a1 a2 a3 a4 a5 a6 a7 a8 a9 a10 a11 a12 a13 a14 a15 : Option Cel} {k : Option Nat} {ds : List D} : put (a0 :: a1 :: a2 :: a3 :: a4 :: a5 :: a6 :: a7 :: a8 :: a9 :: a10 :: a11 :: a12 :: a13 :: a14 :: a15 :: some (.ow k fr ds) :: ρ) (.s 16) = (a0 :: a1 :: a2 :: a3 :: a4 :: a5 :: a6 :: a7 :: a8 :: a9 :: a10 :: a11 :: a12 :: a13 :: a14 :: a15 :: some (.sh fr (.lst ds)) :: ρ) := rfl
@[simp ↓] theorem yps16 {a0 a1 a2 a3 a4 a5 a6 a7 a8 a9 a10 a11 a12 a13 a14 a15 : Option Cel} {d : D} : put (a0 :: a1 :: a2 :: a3 :: a4 :: a5 :: a6 :: a7 :: a8 :: a9 :: a10 :: a11 :: a12 :: a13 :: a14 :: a15 :: some (.sh fr d) :: ρ) (.s 16) = (a0 :: a1 :: a2 :: a3 :: a4 :: a5 :: a6 :: a7 :: a8 :: a9 :: a10 :: a11 :: a12 :: a13 :: a14 :: a15 :: some (.sh fr d) :: ρ) := rfl
@[simp] theorem ycm16 {a0 a1 a2 a3 a4 a5 a6 a7 a8 a9 a10 a11 a12 a13 a14 a15 : Option Cel} {n : Nat} {S : Spec'} {xs : List Val} {us : List D} {k : Option Nat} {ds : List D} : kCall n (some 0) S (.s 16 :: xs) (some us) (a0 :: a1 :: a2 :: a3 :: a4 :: a5 :: a6 :: a7 :: a8 :: a9 :: a10 :: a11 :: a12 :: a13 :: a14 :: a15 :: some (.ow k fr ds) :: ρ) P = (us.length = n ∧ (imms ds = true ∧ others 16 0 (.s 16 :: xs) = true) ∧ S us fun x cs => P x (a0 :: a1 :: a2 :: a3 :: a4 :: a5 :: a6 :: a7 :: a8 :: a9 :: a10 :: a11 :: a12 :: a13 :: a14 :: a15 :: some (.ow k fr cs) :: ρ)) := by rw [y_kCallm (i := 16) rfl]; rfl
@[simp ↓] theorem yau16 {a0 a1 a2 a3 a4 a5 a6 a7 a8 a9 a10 a11 a12 a13 a14 a15 : Option Cel} {d : D} {k : KO} : sAug 16 pa k E (a0 :: a1 :: a2 :: a3 :: a4 :: a5 :: a6 :: a7 :: a8 :: a9 :: a10 :: a11 :: a12 :: a13 :: a14 :: a15 :: some (.sh fr d) :: ρ) = pa (a0 :: a1 :: a2 :: a3 :: a4 :: a5 :: a6 :: a7 :: a8 :: a9 :: a10 :: a11 :: a12 :: a13 :: a14 :: a15 :: some (.sh fr d) :: ρ) fun y ρ1 => kAug 16 fr d k y ρ1 E.nx := rfl
@[simp ↓] theorem yak16 {a0 a1 a2 a3 a4 a5 a6 a7 a8 a9 a10 a11 a12 a13 a14 a15 : Option Cel} {d : D} {k : KO} {y : Val} : kAug 16 fr d k y (a0 :: a1 :: a2 :: a3 :: a4 :: a5 :: a6 :: a7 :: a8 :: a9 :: a10 :: a11 :: a12 :: a13 :: a14 :: a15 :: some (.sh fr d) :: ρ) C = k (.v fr d) y (a0 :: a1 :: a2 :: a3 :: a4 :: a5 :: a6 :: a7 :: a8 :: a9 :: a10 :: a11 :: a12 :: a13 :: a14 :: a15 :: some (.sh fr d) :: ρ) fun z ρ2 => gN 16 z ρ2 C := propext ⟨fun h => h.2, fun h => ⟨rfl, h⟩⟩
@[simp ↓] theorem yap16 {a0 a1 a2 a3 a4 a5 a6 a7 a8 a9 a10 a11 a12 a13 a14 a15 : Option Cel} {k : Option Nat} {ds : List D} : pAppend 16 pa (a0 :: a1 :: a2 :: a3 :: a4 :: a5 :: a6 :: a7 :: a8 :: a9 :: a10 :: a11 :: a12 :: a13 :: a14 :: a15 :: some (.ow k fr ds) :: ρ) P = pa (a0 :: a1 :: a2 :: a3 :: a4 :: a5 :: a6 :: a7 :: a8 :: a9 :: a10 :: a11 :: a12 :: a13 :: a14 :: a15 :: some (.ow k fr ds) :: ρ) fun y ρ1 => kApp 16 y ρ1 P := rfl
@[simp ↓] theorem yaq16 {a0 a1 a2 a3 a4 a5 a6 a7 a8 a9 a10 a11 a12 a13 a14 a15 : Option Cel} {d : D} {k : Option Nat} {ds : List D} : kApp 16 (.v f d) (a0 :: a1 :: a2 :: a3 :: a4 :: a5 :: a6 :: a7 :: a8 :: a9 :: a10 :: a11 :: a12 :: a13 :: a14 :: a15 :: some (.ow k fr ds) :: ρ) P = (ds.length < sizeLine ∧ P (.v true .non) (a0 :: a1 :: a2 :: a3 :: a4 :: a5 :: a6 :: a7 :: a8 :: a9 :: a10 :: a11 :: a12 :: a13 :: a14 :: a15 :: some (.ow k (fr && f) (ds ++ [d])) :: ρ)) := rfl
@[simp ↓] theorem yar16 {a0 a1 a2 a3 a4 a5 a6 a7 a8 a9 a10 a11 a12 a13 a14 a15 : Option Cel} {d : List D} {k : Option Nat} {ds : List D} : kApp 16 (.f f d) (a0 :: a1 :: a2 :: a3 :: a4 :: a5 :: a6 :: a7 :: a8 :: a9 :: a10 :: a11 :: a12 :: a13 :: a14 :: a15 :: some (.ow k fr ds) :: ρ) P = (ds.length < sizeLine ∧ P (.v true .non) (a0 :: a1 :: a2 :: a3 :: a4 :: a5 :: a6 :: a7 :: a8 :: a9 :: a10 :: a11 :: a12 :: a13 :: a14 :: a15 :: some (.ow k (fr && f) (ds ++ [.lst d])) :: ρ)) := rfl
@[simp ↓] theorem ypo16 {a0 a1 a2 a3 a4 a5 a6 a7 a8 a9 a10 a11 a12 a13 a14 a15 : Option Cel} {k : Option Nat} {ds : List D} : pPop 16 (a0 :: a1 :: a2 :: a3 :: a4 :: a5 :: a6 :: a7 :: a8 :: a9 :: a10 :: a11 :: a12 :: a13 :: a14 :: a15 :: some (.ow k fr ds) :: ρ) P = (∃ d, ds[ds.length - 1]? = some d ∧ P (.v fr d) (a0 :: a1 :: a2 :: a3 :: a4 :: a5 :: a6 :: a7 :: a8 :: a9 :: a10 :: a11 :: a12 :: a13 :: a14 :: a15 :: some (.ow k fr ds.dropLast) :: ρ)) := rfl
@[simp ↓] theorem ypa16 {a0 a1 a2 a3 a4 a5 a6 a7 a8 a9 a10 a11 a12 a13 a14 a15 : Option Cel} {k : Option Nat} {ds : List D} : pPopAt 16 pa (a0 :: a1 :: a2 :: a3 :: a4 :: a5 :: a6 :: a7 :: a8 :: a9 :: a10 :: a11 :: a12 :: a13 :: a14 :: a15 :: some (.ow k fr ds) :: ρ) P = pa (a0 :: a1 :: a2 :: a3 :: a4 :: a5 :: a6 :: a7 :: a8 :: a9 :: a10 :: a11 :: a12 :: a13 :: a14 :: a15 :: some (.ow k fr ds) :: ρ) fun y ρ1 => kPopAt 16 y ρ1 P := rfl
@[simp ↓] theorem ykp16 {a0 a1 a2 a3 a4 a5 a6 a7 a8 a9 a10 a11 a12 a13 a14 a15 : Option Cel} {k : Option Nat} {ds : List D} {z : Int} : kPopAt 16 (.v g (.int z)) (a0 :: a1 :: a2 :: a3 :: a4 :: a5 :: a6 :: a7 :: a8 :: a9 :: a10 :: a11 :: a12 :: a13 :: a14 :: a15 :: some (.ow k fr ds) :: ρ) P = (-(2 ^ 63) ≤ z ∧ z < 2 ^ 63 ∧ ∃ j d, ixN ds.length z = some j ∧ ds[j]? = some d ∧ P (.v fr d) (a0 :: a1 :: a2 :: a3 :: a4 :: a5 :: a6 :: a7 :: a8 :: a9 :: a10 :: a11 :: a12 :: a13 :: a14 :: a15 :: some (.ow k fr (ds.eraseIdx j)) :: ρ)) := rfl
@[simp ↓] theorem yse16 {a0 a1 a2 a3 a4 a5 a6 a7 a8 a9 a10 a11 a12 a13 a14 a15 : Option Cel} {d : D} {k : Option Nat} {ds : List D} : gSet 16 pa (.v f d) (a0 :: a1 :: a2 :: a3 :: a4 :: a5 :: a6 :: a7 :: a8 :: a9 :: a10 :: a11 :: a12 :: a13 :: a14 :: a15 :: some (.ow k fr ds) :: ρ) C = pa (a0 :: a1 :: a2 :: a3 :: a4 :: a5 :: a6 :: a7 :: a8 :: a9 :: a10 :: a11 :: a12 :: a13 :: a14 :: a15 :: some (.ow k fr ds) :: ρ) fun y ρ1 => kSet 16 f d y ρ1 C := rfl
@[simp ↓] theorem ysk16 {a0 a1 a2 a3 a4 a5 a6 a7 a8 a9 a10 a11 a12 a13 a14 a15 : Option Cel} {d : D} {k : Option Nat} {ds : List D} {z : Int} : kSet 16 f d (.v g (.int z)) (a0 :: a1 :: a2 :: a3 :: a4 :: a5 :: a6 :: a7 :: a8 :: a9 :: a10 :: a11 :: a12 :: a13 :: a14 :: a15 :: some (.ow k fr ds) :: ρ) C = (∃ j, ixN ds.length z = some j ∧ C (a0 :: a1 :: a2 :: a3 :: a4 :: a5 :: a6 :: a7 :: a8 :: a9 :: a10 :: a11 :: a12 :: a13 :: a14 :: a15 :: some (.ow k (fr && f) (ds.set j d)) :: ρ)) := rfl
@[simp ↓] theorem yvs17 {a0 a1 a2 a3 a4 a5 a6 a7 a8 a9 a10 a11 a12 a13 a14 a15 a16 : Option Cel} {d : D} : pVar 17 (a0 :: a1 :: a2 :: a3 :: a4 :: a5 :: a6 :: a7 :: a8 :: a9 :: a10 :: a11 :: a12 :: a13 :: a14 :: a15 :: a16 :: some (.sh fr d) :: ρ) P = P (.v fr d) (a0 :: a1 :: a2 :: a3 :: a4 :: a5 :: a6 :: a7 :: a8 :: a9 :: a10 :: a11 :: a12 :: a13 :: a14 :: a15 :: a16 :: some (.sh fr d) :: ρ) := rfl
@[simp ↓] theorem yvo17 {a0 a1 a2 a3 a4 a5 a6 a7 a8 a9 a10 a11 a12 a13 a14 a15 a16 : Option Cel} {k : Option Nat} {ds : List D} : pVar 17 (a0 :: a1 :: a2 :: a3 :: a4 :: a5 :: a6 :: a7 :: a8 :: a9 :: a10 :: a11 :: a12 :: a13 :: a14 :: a15 :: a16 :: some (.ow k fr ds) :: ρ) P = P (.s 17) (a0 :: a1 :: a2 :: a3 :: a4 :: a5 :: a6 :: a7 :: a8 :: a9 :: a10 :: a11 :: a12 :: a13 :: a14 :: a15 :: a16 :: some (.ow k fr ds) :: ρ) := rfl
@[simp ↓] theorem ygv17 {a0 a1 a2 a3 a4 a5 a6 a7 a8 a9 a10 a11 a12 a13 a14 a15 a16 : Option Cel} {c : Option Cel} {d : D} : gN 17 (.v fr d) (a0 :: a1 :: a2 :: a3 :: a4 :: a5 :: a6 :: a7 :: a8 :: a9 :: a10 :: a11 :: a12 :: a13 :: a14 :: a15 :: a16 :: c :: ρ) C = C (a0 :: a1 :: a2 :: a3 :: a4 :: a5 :: a6 :: a7 :: a8 :: a9 :: a10 :: a11 :: a12 :: a13 :: a14 :: a15 :: a16 :: some (.sh fr d) :: ρ) := propext ⟨fun h => h.2, fun h => ⟨by simp, h⟩⟩
@[simp ↓] theorem ygf17 {a0 a1 a2 a3 a4 a5 a6 a7 a8 a9 a10 a11 a12 a13 a14 a15 a16 : Option Cel} {c : Option Cel} {d : List D} : gN 17 (.f fr d) (a0 :: a1 :: a2 :: a3 :: a4 :: a5 :: a6 :: a7 :: a8 :: a9 :: a10 :: a11 :: a12 :: a13 :: a14 :: a15 :: a16 :: c :: ρ) C = C (a0 :: a1 :: a2 :: a3 :: a4 :: a5 :: a6 :: a7 :: a8 :: a9 :: a10 :: a11 :: a12 :: a13 :: a14 :: a15 :: a16 :: some (.ow none fr d) :: ρ) := propext ⟨fun h => h.2, fun h => ⟨by simp, h⟩⟩
@[simp ↓] theorem yrs17 {a0 a1 a2 a3 a4 a5 a6 a7 a8 a9 a10 a11 a12 a13 a14 a15 a16 : Option Cel} {c : Cel} : res (a0 :: a1 :: a2 :: a3 :: a4 :: a5 :: a6 :: a7 :: a8 :: a9 :: a10 :: a11 :: a12 :: a13 :: a14 :: a15 :: a16 :: some c :: ρ) (.s 17) = c.rd := rfl
@[simp ↓] theorem yrt17 {a0 a1 a2 a3 a4 a5 a6 a7 a8 a9 a10 a11 a12 a13 a14 a15 a16 : Option Cel} {c : Cel} : resT (a0 :: a1 :: a2 :: a3 :: a4 :: a5 :: a6 :: a7 :: a8 :: a9 :: a10 :: a11 :: a12 :: a13 :: a14 :: a15 :: a16 :: some c :: ρ) (.s 17) = some c.dat := rfl
@[simp ↓] theorem yvt17 {a0 a1 a2 a3 a4 a5 a6 a7 a8 a9 a10 a11 a12 a13 a14 a15 a16 : Option Cel} {pp : Bool} {td : D} : pVar 17 (a0 :: a1 :: a2 :: a3 :: a4 :: a5 :: a6 :: a7 :: a8 :: a9 :: a10 :: a11 :: a12 :: a13 :: a14 :: a15 :: a16 :: some (.tr pp td) :: ρ) P = P (.s 17) (a0 :: a1 :: a2 :: a3 :: a4 :: a5 :: a6 :: a7 :: a8 :: a9 :: a10 :: a11 :: a12 :: a13 :: a14 :: a15 :: a16 :: some (.tr pp td) :: ρ) := rfl
@[simp ↓] theorem ypu17 {a0 a1 a2 a3 a4 a5 a6 a7 a8 a9 a10 a11 a12 a13 a14 a15 a16 : Option Cel} {pp : Bool} {td : D} : put (a0 :: a1 :: a2 :: a3 :: a4 :: a5 :: a6 :: a7 :: a8 :: a9 :: a10 :: a11 :: a12 :: a13 :: a14 :: a15 :: a16 :: some (.tr pp td) :: ρ) (.s 17) = (a0 :: a1 :: a2 :: a3 :: a4 :: a5 :: a6 :: a7 :: a8 :: a9 :: a10 :: a11 :: a12 :: a13 :: a14 :: a15 :: a16 :: some (.sh (!pp) td) :: ρ) := rfl
@[simp ↓] theorem yrf17 {a0 a1 a2 a3 a4 a5 a6 a7 a8 a9 a10 a11 a12 a13 a14 a15 a16 : Option Cel} {c : Cel} : resF (a0 :: a1 :: a2 :: a3 :: a4 :: a5 :: a6 :: a7 :: a8 :: a9 :: a10 :: a11 :: a12 :: a13 :: a14 :: a15 :: a16 :: some c :: ρ) (.s 17) = c.frs := rfl
@[simp ↓] theorem ypt17 {a0 a1 a2 a3 a4 a5 a6 a7 a8 a9 a10 a11 a12 a13 a14 a15 a16 : Option Cel} {k : Option Nat} {ds : List D} : put (a0 :: a1 :: a2 :: a3 :: a4 :: a5 :: a6 :: a7 :: a8 :: a9 :: a10 :: a11 :: a12 :: a13 :: a14 :: a15 :: a16 :: some (.ow k fr ds) :: ρ) (.s 17) = (a0 :: a1 :: a2 :: a3 :: a4 :: a5 :: a6 :: a7 :: a8 :: a9 :: a10 :: a11 :: a12 :: a13 :: a14 :: a15 :: a16 :: some (.sh fr (.lst ds)) :: ρ) := rfl
@[simp ↓] theorem yps17 {a0 a1 a2 a3 a4 a5 a6 a7 a8 a9 a10 a11 a12 a13 a14 a15 a16 : Option Cel} {d : D} : put (a0 :: a1 :: a2 :: a3 :: a4 :: a5 :: a6 :: a7 :: a8 :: a9 :: a10 :: a11 :: a12 :: a13 :: a14 :: a15 :: a16 :: some (.sh fr d) :: ρ) (.s 17) = (a0 :: a1 :: a2 :: a3 :: a4 :: a5 :: a6 :: a7 :: a8 :: a9 :: a10 :: a11 :: a12 :: a13 :: a14 :: a15 :: a16 :: some (.sh fr d) :: ρ) := rfl
@[simp] theorem ycm17 {a0 a1 a2 a3 a4 a5 a6 a7 a8 a9 a10 a11 a12 a13 a14 a15 a16 : Option Cel} {n : Nat} {S : Spec'} {xs : List Val} {us : List D} {k : Option Nat} {ds : List D} : kCall n (some 0) S (.s 17 :: xs) (some us) (a0 :: a1 :: a2 :: a3 :: a4 :: a5 :: a6 :: a7 :: a8 :: a9 :: a10 :: a11 :: a12 :: a13 :: a14 :: a15 :: a16 :: some (.ow k fr ds) :: ρ) P = (us.length = n ∧ (imms ds = true ∧ others 17 0 (.s 17 :: xs) = true) ∧ S us fun x cs => P x (a0 :: a1 :: a2 :: a3 :: a4 :: a5 :: a6 :: a7 :: a8 :: a9 :: a10 :: a11 :: a12 :: a13 :: a14 :: a15 :: a16 :: some (.ow k fr cs) :: ρ)) := by rw [y_kCallm (i := 17) rfl]; rfl
@[simp ↓] theorem yau17 {a0 a1 a2 a3 a4 a5 a6 a7 a8 a9 a10 a11 a12 a13 a14 a15 a16 : Option Cel} {d : D} {k : KO} : sAug 17 pa k E (a0 :: a1 :: a2 :: a3 :: a4 :: a5 :: a6 :: a7 :: a8 :: a9 :: a10 :: a11 :: a12 :: a13 :: a14 :: a15 :: a16 :: some (.sh fr d) :: ρ) = pa (a0 :: a1 :: a2 :: a3 :: a4 :: a5 :: a6 :: a7 :: a8 :: a9 :: a10 :: a11 :: a12 :: a13 :: a14 :: a15 :: a16 :: some (.sh fr d) :: ρ) fun y ρ1 => kAug 17 fr d k y ρ1 E.nx := rfl
@[simp ↓] theorem yak17 {a0 a1 a2 a3 a4 a5 a6 a7 a8 a9 a10 a11 a12 a13 a14 a15 a16 : Option Cel} {d : D} {k : KO} {y : Val} : kAug 17 fr d k y (a0 :: a1 :: a2 :: a3 :: a4 :: a5 :: a6 :: a7 :: a8 :: a9 :: a10 :: a11 :: a12 :: a13 :: a14 :: a15 :: a16 :: some (.sh fr d) :: ρ) C = k (.v fr d) y (a0 :: a1 :: a2 :: a3 :: a4 :: a5 :: a6 :: a7 :: a8 :: a9 :: a10 :: a11 :: a12 :: a13 :: a14 :: a15 :: a16 :: some (.sh fr d) :: ρ) fun z ρ2 => gN 17 z ρ2 C := propext ⟨fun h => h.2, fun h => ⟨rfl, h⟩⟩
@[simp ↓] theorem yap17 {a0 a1 a2 a3 a4 a5 a6 a7 a8 a9 a10 a11 a12 a13 a14 a15 a16 : Option Cel} {k : Option Nat} {ds : List D} : pAppend 17 pa (a0 :: a1 :: a2 :: a3 :: a4 :: a5 :: a6 :: a7 :: a8 :: a9 :: a10 :: a11 :: a12 :: a13 :: a14 :: a15 :: a16 :: some (.ow k fr ds) :: ρ) P = pa (a0 :: a1 :: a2 :: a3 :: a4 :: a5 :: a6 :: a7 :: a8 :: a9 :: a10 :: a11 :: a12 :: a13 :: a14 :: a15 :: a16 :: some (.ow k fr ds) :: ρ) fun y ρ1 => kApp 17 y ρ1 P := rfl
@[simp ↓] theorem yaq17 {a0 a1 a2 a3 a4 a5 a6 a7 a8 a9 a10 a11 a12 a13 a14 a15 a16 : Option Cel} {d : D} {k : Option Nat} {ds : List D} : kApp 17 (.v f d) (a0 :: a1 :: a2 :: a3 :: a4 :: a5 :: a6 :: a7 :: a8 :: a9 :: a10 :: a11 :: a12 :: a13 :: a14 :: a15 :: a16 :: some (.ow k fr ds) :: ρ) P = (ds.length < sizeLine ∧ P (.v true .non) (a0 :: a1 :: a2 :: a3 :: a4 :: a5 :: a6 :: a7 :: a8 :: a9 :: a10 :: a11 :: a12 :: a13 :: a14 :: a15 :: a16 :: some (.ow k (fr && f) (ds ++ [d])) :: ρ)) := rfl
@[simp ↓] theorem yar17 {a0 a1 a2 a3 a4 a5 a6 a7 a8 a9 a10 a11 a12 a13 a14 a15 a16 : Option Cel} {d : List D} {k : Option Nat} {ds : List D} : kApp 17 (.f f d) (a0 :: a1 :: a2 :: a3 :: a4 :: a5 :: a6 :: a7 :: a8 :: a9 :: a10 :: a11 :: a12 :: a13 :: a14 :: a15 :: a16 :: some (.ow k fr ds) :: ρ) P = (ds.length < sizeLine ∧ P (.v true .non) (a0 :: a1 :: a2 :: a3 :: a4 :: a5 :: a6 :: a7 :: a8 :: a9 :: a10 :: a11 :: a12 :: a13 :: a14 :: a15 :: a16 :: some (.ow k (fr && f) (ds ++ [.lst d])) :: ρ)) := rfl
@[simp ↓] theorem ypo17 {a0 a1 a2 a3 a4 a5 a6 a7 a8 a9 a10 a11 a12 a13 a14 a15 a16 : Option Cel} {k : Option Nat} {ds : List D} : pPop 17 (a0 :: a1 :: a2 :: a3 :: a4 :: a5 :: a6 :: a7 :: a8 :: a9 :: a10 :: a11 :: a12 :: a13 :: a14 :: a15 :: a16 :: some (.ow k fr ds) :: ρ) P = (∃ d, ds[ds.length - 1]? = some d ∧ P (.v fr d) (a0 :: a1 :: a2 :: a3 :: a4 :: a5 :: a6 :: a7 :: a8 :: a9 :: a10 :: a11 :: a12 :: a13 :: a14 :: a15 :: a16 :: some (.ow k fr ds.dropLast) :: ρ)) := rfl
@[simp ↓] theorem ypa17 {a0 a1 a2 a3 a4 a5 a6 a7 a8 a9 a10 a11 a12 a13 a14 a15 a16 : Option Cel} {k : Option Nat} {ds : List D} : pPopAt 17 pa (a0 :: a1 :: a2 :: a3 :: a4 :: a5 :: a6 :: a7 :: a8 :: a9 :: a10 :: a11 :: a12 :: a13 :: a14 :: a15 :: a16 :: some (.ow k fr ds) :: ρ) P = pa (a0 :: a1 :: a2 :: a3 :: a4 :: a5 :: a6 :: a7 :: a8 :: a9 :: a10 :: a11 :: a12 :: a13 :: a14 :: a15 :: a16 :: some (.ow k fr ds) :: ρ) fun y ρ1 => kPopAt 17 y ρ1 P := rfl
@[simp ↓] theorem ykp17 {a0 a1 a2 a3 a4 a5 a6 a7 a8 a9 a10 a11 a12 a13 a14 a15 a16 : Option Cel} {k : Option Nat} {ds : List D} {z : Int} : kPopAt 17 (.v g (.int z)) (a0 :: a1 :: a2 :: a3 :: a4 :: a5 :: a6 :: a7 :: a8 :: a9 :: a10 :: a11 :: a12 :: a13 :: a14 :: a15 :: a16 :: some (.ow k fr ds) :: ρ) P = (-(2 ^ 63) ≤ z ∧ z < 2 ^ 63 ∧ ∃ j d, ixN ds.length z = some j ∧ ds[j]? = some d ∧ P (.v fr d) (a0 :: a1 :: a2 :: a3 :: a4 :: a5 :: a6 :: a7 :: a8 :: a9 :: a10 :: a11 :: a12 :: a13 :: a14 :: a15 :: a16 :: some (.ow k fr (ds.eraseIdx j)) :: ρ)) := rfl
@[simp ↓] theorem yse17 {a0 a1 a2 a3 a4 a5 a6 a7 a8 a9 a10 a11 a12 a13 a14 a15 a16 : Option Cel} {d : D} {k : Option Nat} {ds : List D} : gSet 17 pa (.v f d) (a0 :: a1 :: a2 :: a3 :: a4 :: a5 :: a6 :: a7 :: a8 :: a9 :: a10 :: a11 :: a12 :: a13 :: a14 :: a15 :: a16 :: some (.ow k fr ds) :: ρ) C = pa (a0 :: a1 :: a2 :: a3 :: a4 :: a5 :: a6 :: a7 :: a8 :: a9 :: a10 :: a11 :: a12 :: a13 :: a14 :: a15 :: a16 :: some (.ow k fr ds) :: ρ) fun y ρ1 => kSet 17 f d y ρ1 C := rfl
@[simp ↓] theorem ysk17 {a0 a1 a2 a3 a4 a5 a6 a7 a8 a9 a10 a11 a12 a13 a14 a15 a16 : Option Cel} {d : D} {k : Option Nat} {ds : List D} {z : Int} : kSet 17 f d (.v g (.int z)) (a0 :: a1 :: a2 :: a3 :: a4 :: a5 :: a6 :: a7 :: a8 :: a9 :: a10 :: a11 :: a12 :: a13 :: a14 :: a15 :: a16 :: some (.ow k fr ds) :: ρ) C = (∃ j, ixN ds.length z = some j ∧ C (a0 :: a1 :: a2 :: a3 :: a4 :: a5 :: a6 :: a7 :: a8 :: a9 :: a10 :: a11 :: a12 :: a13 :: a14 :: a15 :: a16 :: some (.ow k (fr && f) (ds.set j d)) :: ρ)) := rfl
end
end Qq

namespace Qq
open PySem PySem.Spec PyProof.Rows L2
section
variable {ρ r : Sto} {P : Val → Sto → Prop} {E : PEn} {p q : PS'} {pa pb pe po : PX} {ps pr : PAs} {N : Sto → Prop} {fr f g : Bool} {C : Str} {ks : List Str} {i : Nat} {a : Option Addr}
/-! attributes -/
def kAt (C : Str) (ks : List Str) (i : Nat) (x : Option D) (f : Bool) (ρ : Sto) (P : Val → Sto → Prop) : Prop := match x with
  | some (.obj _ C' ks' ds) => C' = C ∧ ks' = ks ∧ ∃ d, ds[i]? = some d ∧ P (.v f d) ρ
  | _ => False
@[simp ↓] theorem y_attr : pAttr C ks i pa ρ P = pa ρ fun x ρ1 => kAt C ks i (res ρ1 x) (resF ρ1 x) ρ1 P := by
  unfold pAttr kAt; rfl
@[simp] theorem y_kAt {ds : List D} : kAt C ks i (some (.obj a C ks ds)) f ρ P = ∃ d, ds[i]? = some d ∧ P (.v f d) ρ := by
  unfold kAt; simp
/-! methods -/
def kMe (C : Str) (ks : List Str) (x : Option D) (R : Prop) : Prop := match x with
  | some (.obj _ C' ks' ds) => C' = C ∧ ks' = ks ∧ R
  | _ => False
@[simp ↓] theorem y_meth {n : Nat} {mu : Option Nat} {S : Spec'} : pMeth C ks n mu S po ps ρ P = po ρ fun x ρ1 => kMe C ks (res ρ1 x) (ps ρ1 fun xs ρ2 => kCall n mu S (x.dn :: xs) (resAll ρ2 (x.dn :: xs)) ρ2 P) := by
  unfold pMeth kMe; rfl
@[simp] theorem y_kMe {ds : List D} {R : Prop} : kMe C ks (some (.obj a C ks ds)) R = R := by
  unfold kMe; simp
/-! C(..) -/
def kMk (n : Nat) (S : SpecI) (x : Option (List D)) (ρ : Sto) (P : Val → Sto → Prop) : Prop := match x with
  | some ds => ds.length = n ∧ S ds fun d => P (.v true d) ρ
  | none => False
@[simp ↓] theorem y_make {n : Nat} {S : SpecI} : pMake n S ps ρ P = ps ρ fun xs ρ1 => kMk n S (resAll ρ1 xs) ρ1 P := by
  unfold pMake kMake kMk; rfl
@[simp ↓] theorem y_kMk {n : Nat} {S : SpecI} {ds : List D} : kMk n S (some ds) ρ P = (ds.length = n ∧ S ds fun d => P (.v true d) ρ) := rfl
/-! self.f = e -/
@[simp ↓] theorem y_setA {nm : Str} : sSetA C ks nm pa E ρ = pa ρ fun y ρ1 => kSetA C ks nm y ρ1 E.nx := rfl
@[simp] theorem y_kSv {nm : Str} {d : D} {ds : List D} : kSetA C ks nm (.v g d) (some (.sh true (.obj a C ks ds)) :: r) N = (noObj d = true ∧ noObjs ds = true ∧ noCells r = true ∧ (g || imm d) = true ∧ N (some (.sh true (.obj a C (ks ++ [nm]) (ds ++ [d]))) :: r)) := by
  unfold kSetA; simp [put, res, resF]
@[simp] theorem y_kSf {nm : Str} {d : List D} {ds : List D} : kSetA C ks nm (.f g d) (some (.sh true (.obj a C ks ds)) :: r) N = (noObjs d = true ∧ noObjs ds = true ∧ noCells r = true ∧ g = true ∧ N (some (.sh true (.obj a C (ks ++ [nm]) (ds ++ [.lst d]))) :: r)) := by
  unfold kSetA; simp [put, res, resF, noObj, imm]
@[simp] theorem y_no1 : noObj .non = true := by simp [noObj]
@[simp] theorem y_no2 {b : Bool} : noObj (.bl b) = true := by simp [noObj]
@[simp] theorem y_no3 {b : Int} : noObj (.int b) = true := by simp [noObj]
@[simp] theorem y_no4 {b : List Nat} : noObj (.str b) = true := by simp [noObj]
@[simp] theorem y_no5 {b : List D} : noObj (.tup b) = noObjs b := by simp [noObj]
@[simp] theorem y_no6 {b : List D} : noObj (.lst b) = noObjs b := by simp [noObj]
@[simp] theorem y_no7 {b : List D} : noObj (.lsr b) = noObjs b := by simp [noObj]
@[simp] theorem y_no8 {k : List Key} {b : List D} : noObj (.dic k b) = noObjs b := by simp [noObj]
@[simp] theorem y_nos0 : noObjs [] = true := by simp [noObjs]
@[simp] theorem y_nos1 {d : D} {ds : List D} : noObjs (d :: ds) = (noObj d && noObjs ds) := by simp [noObjs]
@[simp] theorem y_nosA {d ds : List D} : noObjs (d ++ ds) = (noObjs d && noObjs ds) := by
  induction d with
  | nil => simp
  | cons x d ih => simp [ih, Bool.and_assoc]
theorem noObjs_all {ds : List D} (h : ∀ d ∈ ds, noObj d = true) : noObjs ds = true := by
  induction ds with
  | nil => simp
  | cons x d ih => simp [h x List.mem_cons_self, ih fun y hy => h y (List.mem_cons_of_mem _ hy)]
@[simp] theorem y_nosM {α : Type} {l : List α} {h : α → D} : noObjs (l.map h) = l.all fun x => noObj (h x) := by
  induction l with
  | nil => rfl
  | cons x d ih => simp [ih]
@[simp] theorem y_nc0 : noCells [] = true := rfl
@[simp] theorem y_nc1 : noCells (none :: r) = noCells r := rfl
@[simp] theorem y_nc2 {d : D} : noCells (some (.sh f d) :: r) = (noObj d && noCells r) := rfl
@[simp] theorem y_nc3 {k : Option Nat} {d : List D} : noCells (some (.ow k f d) :: r) = (noObjs d && noCells r) := rfl
@[simp] theorem y_endsI {x : Addr} {R : D → Prop} : (endsI x R).nx = endI x R := rfl
@[simp] theorem y_endsIr {x : Addr} {R : D → Prop} : (endsI x R).rt = fun _ _ => False := rfl
@[simp] theorem y_endI {x : Addr} {R : D → Prop} {ds : List D} : endI x R (some (.sh true (.obj a C ks ds)) :: r) = (a = some x ∧ R (.obj none C ks ds)) := rfl
@[simp ↓] theorem y_never : sNever E ρ = False := rfl
/-! texts -/
def kTM2 (h : List Nat → D → (D → Prop) → Prop) (x : List Nat) (d : Option D) (ρ : Sto) (P : Val → Sto → Prop) : Prop := match d with
  | some d => h x d fun z => P (.v true z) ρ
  | none => False
def kTM1 (h : List Nat → D → (D → Prop) → Prop) (d : Option D) (pe : PX) (ρ : Sto) (P : Val → Sto → Prop) : Prop := match d with
  | some (.str x) => pe ρ fun y ρ2 => kTM2 h x (res ρ2 y) ρ2 P
  | _ => False
@[simp ↓] theorem y_tm1 {h : List Nat → D → (D → Prop) → Prop} : pTM1 h po pe ρ P = po ρ fun x ρ1 => kTM1 h (res ρ1 x) pe ρ1 P := by
  unfold pTM1 kTM1 kTM2; rfl
@[simp ↓] theorem y_kTM1 {h : List Nat → D → (D → Prop) → Prop} {x : List Nat} : kTM1 h (some (.str x)) pe ρ P = pe ρ fun y ρ2 => kTM2 h x (res ρ2 y) ρ2 P := rfl
@[simp ↓] theorem y_kFind {x y : List Nat} : kTM2 gFind x (some (.str y)) ρ P = P (.v true (.int (findN x y))) ρ := rfl
def kJoin (s : List Nat) (d : Option (List (List Nat))) (ρ : Sto) (P : Val → Sto → Prop) : Prop := match d with
  | some xs => (xs.map (·.length)).sum + xs.length * s.length ≤ 16777216 ∧ P (.v true (.str (TL.joinL s xs))) ρ
  | none => False
@[simp ↓] theorem y_kJl {x : List Nat} {ds : List D} : kTM2 gJoin x (some (.lst ds)) ρ P = kJoin x (strsOf ds) ρ P := rfl
@[simp ↓] theorem y_kJt {x : List Nat} {ds : List D} : kTM2 gJoin x (some (.tup ds)) ρ P = kJoin x (strsOf ds) ρ P := rfl
@[simp ↓] theorem y_kJoin {s : List Nat} {xs : List (List Nat)} : kJoin s (some xs) ρ P = ((xs.map (·.length)).sum + xs.length * s.length ≤ 16777216 ∧ P (.v true (.str (TL.joinL s xs))) ρ) := rfl
@[simp] theorem y_strsM {α : Type} {l : List α} {h : α → List Nat} : strsOf (l.map fun x => D.str (h x)) = some (l.map h) := by
  induction l with
  | nil => rfl
  | cons x l ih => simp [strsOf, ih]
@[simp] theorem y_strsMc {α : Type} {l : List α} {h : α → List Nat} : strsOf (l.map (D.str ∘ h)) = some (l.map h) := y_strsM
@[simp] theorem y_strsM' {l : List (List Nat)} : strsOf (l.map D.str) = some l := strsOf_map l
@[simp] theorem joinL_nil : ∀ {xs : List (List Nat)}, TL.joinL [] xs = xs.flatten
  | [] => rfl
  | [x] => by simp [TL.joinL]
  | x :: y :: l => by
    have := joinL_nil (xs := y :: l)
    rw [TL.joinL, this]; simp
@[simp ↓] theorem y_kStrip {x y : List Nat} : kTM2 gStrip x (some (.str y)) ρ P = (x.length ≤ sizeLine ∧ P (.v true (.str (stripN x y))) ρ) := rfl
def kSplit2 (a : List Nat) (d : Option D) (ρ : Sto) (P : Val → Sto → Prop) : Prop := match d with
  | some (.str b) => 0 < b.length ∧ a.length + 2 ≤ sizeLine ∧ P (.f true ((splitN a b).map D.str)) ρ
  | _ => False
def kSplit1 (d : Option D) (pe : PX) (ρ : Sto) (P : Val → Sto → Prop) : Prop := match d with
  | some (.str a) => pe ρ fun y ρ2 => kSplit2 a (res ρ2 y) ρ2 P
  | _ => False
@[simp ↓] theorem y_split : pSplit po pe ρ P = po ρ fun x ρ1 => kSplit1 (res ρ1 x) pe ρ1 P := by
  unfold pSplit kSplit1 kSplit2; rfl
@[simp ↓] theorem y_kSplit1 {a : List Nat} : kSplit1 (some (.str a)) pe ρ P = pe ρ fun y ρ2 => kSplit2 a (res ρ2 y) ρ2 P := rfl
@[simp ↓] theorem y_kSplit2 {a b : List Nat} : kSplit2 a (some (.str b)) ρ P = (0 < b.length ∧ a.length + 2 ≤ sizeLine ∧ P (.f true ((splitN a b).map D.str)) ρ) := rfl
@[simp] theorem y_eqE {d e : D} {R : D → Prop} : gEqE d e R = (gEq d e R ∨ (d = .dic [] [] ∧ e = .dic [] [] ∧ R (.bl true))) := rfl
/-! sums -/
def kSm (d : Option (List Int)) (ρ : Sto) (P : Val → Sto → Prop) : Prop := match d with
  | some ns => P (.v true (.int ns.sum)) ρ
  | none => False
def kSmD (d : Option D) (ρ : Sto) (P : Val → Sto → Prop) : Prop := match d with
  | some (.lst ds) => kSm (intsOf ds) ρ P
  | some (.lsr ds) => kSm (intsOf ds) ρ P
  | _ => False
@[simp ↓] theorem y_sum {x : Val} : kSum [x] ρ P = kSmD (res ρ x) ρ P := by
  unfold kSum kSmD kSm; rfl
@[simp ↓] theorem y_kSmD {ds : List D} : kSmD (some (.lst ds)) ρ P = kSm (intsOf ds) ρ P := rfl
@[simp ↓] theorem y_kSmD' {ds : List D} : kSmD (some (.lsr ds)) ρ P = kSm (intsOf ds) ρ P := rfl
@[simp ↓] theorem y_kSm {ns : List Int} : kSm (some ns) ρ P = P (.v true (.int ns.sum)) ρ := rfl
@[simp] theorem y_intsMc {α : Type} {l : List α} {h : α → Int} : intsOf (l.map (D.int ∘ h)) = some (l.map h) := intsOf_map h l
@[simp] theorem y_intsM {α : Type} {l : List α} {h : α → Int} : intsOf (l.map fun x => D.int (h x)) = some (l.map h) := intsOf_map h l
end
end Qq

namespace Qq
/-- k signs both begin and end the first n, fewer than all of them -/
def Bd (f : Nat → Nat) (n k : Nat) : Prop := k < n ∧ ∀ i, i < k → f i = f (n - k + i)
/-- the greatest -/
def GB (f : Nat → Nat) (n k : Nat) : Prop := Bd f n k ∧ ∀ j, Bd f n j → j ≤ k
theorem Bd.zero {f : Nat → Nat} {n : Nat} (h : 0 < n) : Bd f n 0 := ⟨h, fun i hi => by omega⟩
theorem Bd.trans {f : Nat → Nat} {n k j : Nat} (a : Bd f n k) (b : Bd f k j) : Bd f n j := by
  obtain ⟨a1, a2⟩ := a
  obtain ⟨b1, b2⟩ := b
  refine ⟨by omega, fun i hi => ?_⟩
  rw [b2 i hi, a2 (k - j + i) (by omega)]
  congr 1
  omega
theorem Bd.down {f : Nat → Nat} {n k j : Nat} (a : Bd f n k) (b : Bd f n j) (h : j < k) : Bd f k j := by
  obtain ⟨a1, a2⟩ := a
  obtain ⟨b1, b2⟩ := b
  refine ⟨h, fun i hi => ?_⟩
  rw [b2 i hi, a2 (k - j + i) (by omega)]
  congr 1
  omega
theorem Bd.succ {f : Nat → Nat} {n k : Nat} : Bd f (n + 1) (k + 1) ↔ Bd f n k ∧ f k = f n := by
  constructor
  · rintro ⟨a1, a2⟩
    refine ⟨⟨by omega, fun i hi => ?_⟩, ?_⟩
    · rw [a2 i (by omega)]; congr 1; omega
    · rw [a2 k (by omega)]; congr 1; omega
  · rintro ⟨⟨a1, a2⟩, a3⟩
    refine ⟨by omega, fun i hi => ?_⟩
    by_cases h : i = k
    · subst h; rw [a3]; congr 1; omega
    · rw [a2 i (by omega)]; congr 1; omega
theorem GB.uniq {f : Nat → Nat} {n k j : Nat} (a : GB f n k) (b : GB f n j) : k = j := Nat.le_antisymm (b.2 _ a.1) (a.2 _ b.1)
/-- the next number, by a border that goes on -/
theorem GB.step {f : Nat → Nat} {n k : Nat} (a : Bd f n k) (b : ∀ j, Bd f n j → f j = f n → j ≤ k) (c : f k = f n) : GB f (n + 1) (k + 1) := by
  refine ⟨Bd.succ.mpr ⟨a, c⟩, fun j h => ?_⟩
  cases j with
  | zero => omega
  | succ j =>
    have := Bd.succ.mp h
    have := b j this.1 this.2
    omega
theorem GB.stop {f : Nat → Nat} {n : Nat} (b : ∀ j, Bd f n j → f j = f n → j ≤ 0) (c : f 0 ≠ f n) : GB f (n + 1) 0 := by
  refine ⟨.zero (by omega), fun j h => ?_⟩
  cases j with
  | zero => omega
  | succ j =>
    have h' := Bd.succ.mp h
    have := b j h'.1 h'.2
    have : j = 0 := by omega
    subst this
    exact absurd h'.2 c
theorem GB.one {f : Nat → Nat} : GB f 1 0 := ⟨.zero (by omega), fun j h => by have := h.1; omega⟩
/-- a border falls -/
theorem GB.fall {f : Nat → Nat} {n k r : Nat} (b : ∀ j, Bd f n j → f j = f n → j ≤ k) (a : Bd f n k) (c : f k ≠ f n) (g : GB f k r) : Bd f n r ∧ ∀ j, Bd f n j → f j = f n → j ≤ r := by
  refine ⟨a.trans g.1, fun j h e => ?_⟩
  have := b j h e
  have hne : j ≠ k := fun q => by subst q; exact c e
  exact g.2 j (a.down h (by omega))
/-- the row of all greatest borders -/
def Brd (x : List Nat) (bs : List Nat) : Prop := bs.length = x.length ∧ ∀ i k, bs[i]? = some k → GB (fun j => x.getD j 0) (i + 1) k
theorem Brd.uniq {x bs cs : List Nat} (a : Brd x bs) (b : Brd x cs) : bs = cs := by
  apply List.ext_getElem?
  intro i
  by_cases h : i < x.length
  · have h1 : i < bs.length := by rw [a.1]; exact h
    have h2 : i < cs.length := by rw [b.1]; exact h
    rw [List.getElem?_eq_getElem h1, List.getElem?_eq_getElem h2]
    exact congrArg some ((a.2 i _ (List.getElem?_eq_getElem h1)).uniq (b.2 i _ (List.getElem?_eq_getElem h2)))
  · rw [List.getElem?_eq_none (by rw [a.1]; omega), List.getElem?_eq_none (by rw [b.1]; omega)]
/-- moved by p it goes -/
def Goes (x : List Nat) (p : Nat) : Prop := ∀ i, i + p < x.length → x.getD i 0 = x.getD (i + p) 0
theorem goes_bd {x : List Nat} {p : Nat} (h1 : 1 ≤ p) (h2 : p ≤ x.length) : Goes x p ↔ Bd (fun j => x.getD j 0) x.length (x.length - p) := by
  constructor
  · intro g
    refine ⟨by omega, fun i hi => ?_⟩
    have := g i (by omega)
    show x.getD i 0 = x.getD (x.length - (x.length - p) + i) 0
    rw [this]; congr 1; omega
  · rintro ⟨_, g⟩ i hi
    have := g i (by omega)
    show x.getD i 0 = x.getD (i + p) 0
    have e : x.getD i 0 = x.getD (x.length - (x.length - p) + i) 0 := this
    rw [e]; congr 1; omega
/-- p is the period of x -/
def Per (x : List Nat) (p : Nat) : Prop := (x = [] ∧ p = 0) ∨ (1 ≤ p ∧ p ≤ x.length ∧ Goes x p ∧ ∀ q, 1 ≤ q → q < p → ¬ Goes x q)
theorem per_of {x : List Nat} {k : Nat} (h : x ≠ []) (g : GB (fun j => x.getD j 0) x.length k) : Per x (x.length - k) := by
  have hk := g.1.1
  refine .inr ⟨by omega, by omega, (goes_bd (by omega) (by omega)).mpr ?_, fun q h1 h2 hg => ?_⟩
  · rw [show x.length - (x.length - k) = k by omega]; exact g.1
  · have := g.2 _ ((goes_bd h1 (by omega)).mp hg)
    omega
theorem Per.uniq {x : List Nat} {p q : Nat} (a : Per x p) (b : Per x q) : p = q := by
  rcases a with ⟨rfl, rfl⟩ | ⟨a1, a2, a3, a4⟩ <;> rcases b with ⟨h, rfl⟩ | ⟨b1, b2, b3, b4⟩
  · rfl
  · simp at b2; omega
  · subst h; simp at a2; omega
  · rcases Nat.lt_trichotomy p q with h | h | h
    · exact absurd a3 (b4 p a1 h)
    · exact h
    · exact absurd b3 (a4 q b1 h)
/-- what goes by p is its first p signs again and again -/
theorem goes_rep {x : List Nat} {p : Nat} (h1 : 1 ≤ p) (h2 : p ≤ x.length) (g : Goes x p) (m : Nat) (hm : x.length ≤ p * m) : ((List.replicate m (x.take p)).flatten).take x.length = x := by
  have key : ∀ (m : Nat) (n : Nat), n < p * m → ((List.replicate m (x.take p)).flatten)[n]? = x[n % p]? := by
    intro m
    induction m with
    | zero => intro n hn; omega
    | succ m ih =>
      intro n hn
      have hn' : n < p * m + p := hn
      rw [List.replicate_succ, List.flatten_cons]
      have hl : (x.take p).length = p := by rw [List.length_take]; omega
      by_cases h : n < p
      · rw [List.getElem?_append_left (by omega), List.getElem?_take, if_pos h, Nat.mod_eq_of_lt h]
      · rw [List.getElem?_append_right (by omega), hl, ih (n - p) (by omega)]
        congr 1
        rw [Nat.mod_eq_sub_mod (a := n) (by omega)]
  have down : ∀ n, n < x.length → x[n % p]? = x[n]? := by
    intro n
    induction n using Nat.strongRecOn with
    | _ n ih =>
      intro hn
      by_cases h : n < p
      · rw [Nat.mod_eq_of_lt h]
      · rw [Nat.mod_eq_sub_mod (by omega), ih (n - p) (by omega) (by omega)]
        have := g (n - p) (by omega)
        rw [Nat.sub_add_cancel (by omega)] at this
        rw [List.getD_eq_getElem?_getD, List.getD_eq_getElem?_getD] at this
        rw [List.getElem?_eq_getElem (by omega : n - p < x.length), List.getElem?_eq_getElem hn] at this ⊢
        simpa using this
  apply List.ext_getElem?
  intro n
  rw [List.getElem?_take]
  split
  · rename_i h
    rw [key m n (by omega), down n h]
  · rename_i h
    rw [List.getElem?_eq_none (by omega)]
end Qq

namespace Qq
open PySem PySem.Spec PyProof.Rows L2

@[simp] theorem cdiv_lit {i j : Int} (h : 0 < j) (h' : j ≤ 1000000000000000000000000000000) : CDivA i j := ⟨h, Int.lt_of_le_of_lt h' (Int.lt_of_lt_of_le (b := 2 ^ 200) (by decide) (by exact_mod_cast Nat.pow_le_pow_right (by decide) (by decide)))⟩
/-- cut after a statement -/
theorem cutI {p : PS'} {E : PEn} {ρ : Sto} (I : Sto → Prop) (h1 : ∀ R : Sto → Prop, (∀ ρ', I ρ' → R ρ') → p { E with nx := R } ρ) (h2 : ∀ ρ', I ρ' → E.nx ρ') : p E ρ := h1 E.nx h2
/-! comprehensions -/
def domL : Sto → Sto → Bool
  | some _ :: r, some _ :: r' => domL r r'
  | none :: r, _ :: r' => domL r r'
  | [], _ => true
  | _, _ => false
theorem domB_cons {a b : Option Cel} {r r' : Sto} : domB (a :: r) (b :: r') = ((match a, b with
  | some _, some _ => true
  | some _, none => false
  | none, _ => true) && domB r r') := by
  unfold domB
  rw [List.length_cons, List.range_succ_eq_map, List.all_cons, List.all_map]
  congr 1
  cases a <;> cases b <;> rfl
theorem domB_eq : ∀ (ρ ρ' : Sto), ρ'.length = ρ.length → domB ρ ρ' = domL ρ ρ'
  | [], _, _ => by unfold domB domL; rfl
  | a :: r, [], h => by simp at h
  | a :: r, b :: r', h => by
    rw [domB_cons, domB_eq r r' (by simpa using h)]
    cases a <;> cases b <;> simp [domL]
theorem unwipe_len (ρe ρ1 : Sto) : ∀ vs, (unwipe ρe ρ1 vs).length = ρe.length
  | [] => rfl
  | i :: vs => by
    unfold unwipe
    split
    · rw [List.length_set, unwipe_len ρe ρ1 vs]
    · exact unwipe_len ρe ρ1 vs
def lcEnd (ρ1 : Sto) (vs : List Nat) (P : Val → Sto → Prop) (fr : Bool) (acc : List D) (ρe : Sto) : Prop := ρe.length = ρ1.length ∧ domL ρ1 (unwipe ρe ρ1 vs) = true ∧ P (.f fr acc) (unwipe ρe ρ1 vs)
@[simp ↓] theorem y_lc {p : PI'} {g : PG'} {tt : PT'} {te : PX} {vs : List Nat} {ρ : Sto} {P : Val → Sto → Prop} : pLc p g tt te vs ρ P = p ρ fun items ρ1 => lcLoop g tt te vs (lcEnd ρ1 vs P) items true [] (wipeS ρ1 vs) := by
  unfold pLc
  congr 1
  funext items ρ1
  congr 1
  funext fr acc ρe
  unfold lcEnd
  by_cases h : ρe.length = ρ1.length
  · rw [domB_eq _ _ ((unwipe_len ρe ρ1 vs).trans h)]
  · simp [h]
theorem y_lcEnd {ρ1 ρe : Sto} {vs : List Nat} {P : Val → Sto → Prop} {fr : Bool} {acc : List D} : lcEnd ρ1 vs P fr acc ρe = (ρe.length = ρ1.length ∧ domL ρ1 (unwipe ρe ρ1 vs) = true ∧ P (.f fr acc) (unwipe ρe ρ1 vs)) := rfl
def kLcP (vs : List Nat) (fr : Bool) (acc : List D) (y : Val) (ρ : Sto) (R : Bool → List D → Sto → Prop) : Prop := match res (put ρ y) y with
  | some d => acc.length < sizeLine ∧ R (fr && resF (put ρ y) y) (acc ++ [d]) (wipeS (put ρ y) vs)
  | none => False
@[simp ↓] theorem y_lcP {vs : List Nat} {fr f : Bool} {acc : List D} {d : D} {ρ : Sto} {R : Bool → List D → Sto → Prop} : kLcP vs fr acc (.v f d) ρ R = (acc.length < sizeLine ∧ R (fr && f) (acc ++ [d]) (wipeS ρ vs)) := rfl
@[simp ↓] theorem y_lcPf {vs : List Nat} {fr f : Bool} {acc : List D} {d : List D} {ρ : Sto} {R : Bool → List D → Sto → Prop} : kLcP vs fr acc (.f f d) ρ R = (acc.length < sizeLine ∧ R (fr && f) (acc ++ [.lst d]) (wipeS ρ vs)) := rfl
@[simp] theorem y_wipe0 {ρ : Sto} : wipeS ρ [] = ρ := rfl
@[simp] theorem y_wipe {ρ : Sto} {v : Nat} {vs : List Nat} : wipeS ρ (v :: vs) = (wipeS ρ vs).set v none := rfl
@[simp] theorem y_unw0 {ρ ρ1 : Sto} : unwipe ρ ρ1 [] = ρ := rfl
def unwC (ρ : Sto) (i : Nat) (c : Option (Option Cel)) : Sto := match c with
    | some (some (.sh fr d)) => ρ.set i (some (.sh fr d))
    | _ => ρ
@[simp] theorem y_unw {ρ ρ1 : Sto} {v : Nat} {vs : List Nat} : unwipe ρ ρ1 (v :: vs) = unwC (unwipe ρ ρ1 vs) v ρ1[v]? := by
  rw [unwipe]
  unfold unwC
  rfl
@[simp] theorem y_unwC1 {ρ : Sto} {i : Nat} : unwC ρ i (some none) = ρ := rfl
@[simp] theorem y_unwC2 {ρ : Sto} {i : Nat} {fr : Bool} {d : D} : unwC ρ i (some (some (.sh fr d))) = ρ.set i (some (.sh fr d)) := rfl
@[simp] theorem y_unwC3 {ρ : Sto} {i : Nat} {k : Option Nat} {fr : Bool} {d : List D} : unwC ρ i (some (some (.ow k fr d))) = ρ := rfl
@[simp] theorem y_domL1 {a b : Cel} {r r' : Sto} : domL (some a :: r) (some b :: r') = domL r r' := rfl
@[simp] theorem y_domL2 {b : Option Cel} {r r' : Sto} : domL (none :: r) (b :: r') = domL r r' := by rw [domL]
@[simp] theorem y_domL3 {r : Sto} : domL [] r = true := by rw [domL]
/-- the turns, by an invariant -/
theorem lc_ind {g : PG'} {tt : PT'} {te : PX} {vs : List Nat} {K : Bool → List D → Sto → Prop} {items : List Val} {ρ : Sto} (I : Nat → Bool → List D → Sto → Prop) (h0 : I 0 true [] ρ)
    (hs : ∀ (i : Nat) (x : Val) (fr : Bool) (acc : List D) (ρ : Sto) (R : Bool → List D → Sto → Prop), items[i]? = some x → (∀ fr' acc' ρ', I (i + 1) fr' acc' ρ' → R fr' acc' ρ') → I i fr acc ρ →
      g x ρ fun ρ1 => tt ρ1 fun b ρ2 => if b = true then te ρ2 fun y ρ3 => kLcP vs fr acc y ρ3 R else R fr acc (wipeS ρ2 vs))
    (he : ∀ fr acc ρ, I items.length fr acc ρ → K fr acc ρ) : lcLoop g tt te vs K items true [] ρ := by
  have key : ∀ (m i : Nat) (fr : Bool) (acc : List D) (ρ : Sto), m = items.length - i → i ≤ items.length → I i fr acc ρ → lcLoop g tt te vs K (items.drop i) fr acc ρ := by
    intro m
    induction m with
    | zero =>
      intro i fr acc ρ hm hi h
      have e : i = items.length := by omega
      subst e
      rw [List.drop_length]
      exact he _ _ _ h
    | succ m ih =>
      intro i fr acc ρ hm hi h
      have hlt : i < items.length := by omega
      rw [List.drop_eq_getElem_cons hlt]
      exact hs i items[i] fr acc ρ (fun fr' acc' ρ' => lcLoop g tt te vs K (items.drop (i + 1)) fr' acc' ρ') (List.getElem?_eq_getElem hlt) (fun fr' acc' ρ' h' => ih (i + 1) fr' acc' ρ' (by omega) hlt h') h
  have := key items.length 0 true [] ρ (by simp) (Nat.zero_le _) h0
  simpa using this
theorem lc_rgs {g : PG'} {tt : PT'} {te : PX} {vs : List Nat} {K : Bool → List D → Sto → Prop} {lo c : Int} {n : Nat} {ρ : Sto} (I : Nat → Bool → List D → Sto → Prop) (h0 : I 0 true [] ρ)
    (hs : ∀ (i : Nat) (fr : Bool) (acc : List D) (ρ : Sto) (R : Bool → List D → Sto → Prop), i < n → (∀ fr' acc' ρ', I (i + 1) fr' acc' ρ' → R fr' acc' ρ') → I i fr acc ρ →
      g (.v true (.int (lo + (i : Int) * c))) ρ fun ρ1 => tt ρ1 fun b ρ2 => if b = true then te ρ2 fun y ρ3 => kLcP vs fr acc y ρ3 R else R fr acc (wipeS ρ2 vs))
    (he : ∀ fr acc ρ, I n fr acc ρ → K fr acc ρ) : lcLoop g tt te vs K (rgs lo c n) true [] ρ := by
  refine lc_ind I h0 (fun i x fr acc ρ R hx hR hI => ?_) (fun fr acc ρ h => he _ _ _ (by rw [rgs_len] at h; exact h))
  have hi : i < n := by
    have := (List.getElem?_eq_some_iff.mp hx).1
    rwa [rgs_len] at this
  rw [rgs_get hi] at hx
  cases hx
  exact hs i fr acc ρ R hi hR hI
theorem lc_map {α : Type} {f : α → Val} {l : List α} {g : PG'} {tt : PT'} {te : PX} {vs : List Nat} {K : Bool → List D → Sto → Prop} {ρ : Sto} (I : Nat → Bool → List D → Sto → Prop) (h0 : I 0 true [] ρ)
    (hs : ∀ (i : Nat) (a : α) (fr : Bool) (acc : List D) (ρ : Sto) (R : Bool → List D → Sto → Prop), l[i]? = some a → (∀ fr' acc' ρ', I (i + 1) fr' acc' ρ' → R fr' acc' ρ') → I i fr acc ρ →
      g (f a) ρ fun ρ1 => tt ρ1 fun b ρ2 => if b = true then te ρ2 fun y ρ3 => kLcP vs fr acc y ρ3 R else R fr acc (wipeS ρ2 vs))
    (he : ∀ fr acc ρ, I l.length fr acc ρ → K fr acc ρ) : lcLoop g tt te vs K (l.map f) true [] ρ := by
  refine lc_ind I h0 (fun i x fr acc ρ R hx hR hI => ?_) (fun fr acc ρ h => he _ _ _ (by rw [List.length_map] at h; exact h))
  rw [List.getElem?_map] at hx
  cases e : l[i]? with
  | none => rw [e] at hx; cases hx
  | some a =>
    rw [e] at hx
    cases hx
    exact hs i a fr acc ρ R e hR hI
/-- the number in a slot -/
def mI (i : Nat) (ρ : Sto) : Nat := match ρ[i]? with
  | some (some (.sh _ (.int k))) => k.toNat
  | _ => 0
/-- the length of an owned list -/
def mL (i : Nat) (ρ : Sto) : Nat := match ρ[i]? with
  | some (some (.ow _ _ ds)) => ds.length
  | _ => 0
/-- the length of a text in a slot -/
def mS (i : Nat) (ρ : Sto) : Nat := match ρ[i]? with
  | some (some (.sh _ (.str x))) => x.length
  | _ => 0
theorem le_line {n : Nat} (h : n ≤ 1000000) : n ≤ sizeLine := by unfold sizeLine; omega
theorem lt_line {n : Nat} (h : n < 1000000) : n < sizeLine := by unfold sizeLine; omega
theorem r62 {i : Int} (h : -1000000000 ≤ i) (h' : i ≤ 1000000000) : R62 i := by unfold R62; omega
theorem R62.nat {n : Nat} (h : n ≤ 1000000) : R62 (n : Int) := r62 (by omega) (by omega)
theorem atI_some {α : Type} {xs : List α} {i : Nat} {a : α} (h : xs[i]? = some a) : atI xs (i : Int) = some a := by
  have hi := (List.getElem?_eq_some_iff.mp h)
  rw [atI_nat hi.1, hi.2]
theorem atI_pos {α : Type} {xs : List α} {i : Int} (h0 : 0 ≤ i) (h : i < xs.length) : ∃ a, atI xs i = some a ∧ a ∈ xs := by
  rw [atI_int h0 h]
  have : i.toNat < xs.length := by omega
  exact ⟨xs[i.toNat], List.getElem?_eq_getElem this, List.getElem_mem this⟩
theorem atI_mem {α : Type} {xs : List α} {i : Int} {a : α} (h : atI xs i = some a) : a ∈ xs := by
  unfold atI at h
  cases e : ixN xs.length i with
  | none => rw [e] at h; cases h
  | some j => rw [e] at h; exact List.mem_of_getElem? h
theorem take_map_succ {α β : Type} {l : List α} {f : α → β} {i : Nat} {a : α} (h : l[i]? = some a) : (l.take (i + 1)).map f = (l.take i).map f ++ [f a] := by
  rw [List.take_succ, h, List.map_append]
  rfl
theorem zipV_same {α : Type} {f : Bool} {g h : α → D} : ∀ l : List α, zipV f (l.map g) (l.map h) = l.map fun a => Val.v f (.tup [g a, h a])
  | [] => rfl
  | a :: l => by
    have := zipV_same (f := f) (g := g) (h := h) l
    unfold zipV at this ⊢
    simp only [List.map_cons, List.zip_cons_cons]
    rw [this]
theorem atI_zero {α : Type} {a : α} {l : List α} : atI (a :: l) 0 = some a := by
  have := atI_some (xs := a :: l) (i := 0) (a := a) rfl
  simpa using this
theorem ix_ex {α : Type} {xs : List α} {i : Int} {p Q : α → Prop} (h0 : 0 ≤ i) (h1 : i < xs.length) (hp : ∀ a ∈ xs, p a) (hQ : ∀ a, p a → Q a) : ∃ d, atI xs i = some d ∧ Q d := by
  obtain ⟨a, e, m⟩ := atI_pos h0 h1
  exact ⟨a, e, hQ a (hp a m)⟩
/-- the script -/
def Scr (ds : List D) (ns : List Int) : Prop := (ds = [.lsr (ns.map D.int)] ∨ ds = [.lst (ns.map D.int)]) ∧ ns.length ≤ 63
theorem Scr.one {ds : List D} {ns : List Int} (h : Scr ds ns) : ∃ d, ds = [d] ∧ ns.length ≤ 63 ∧ (d = .lsr (ns.map D.int) ∨ d = .lst (ns.map D.int)) ∧ ∀ n, entry none n [d] = some (.sh false d) :: List.replicate n none := by
  obtain ⟨h, hn⟩ := h
  rcases h with rfl | rfl
  · exact ⟨_, rfl, hn, .inl rfl, fun _ => rfl⟩
  · exact ⟨_, rfl, hn, .inr rfl, fun _ => rfl⟩
theorem cut_ints {ns : List Int} {lo hi : Option Int} : cut (ns.map D.int) lo hi = (cut ns lo hi).map D.int := by
  unfold cut
  rw [List.length_map, List.map_take, List.map_drop]
theorem take_drop_min {α : Type} {xs : List α} {n m : Nat} : (xs.drop (min n xs.length)).take (min m xs.length - min n xs.length) = (xs.drop n).take (m - n) := by
  by_cases h : n ≤ xs.length
  · rw [Nat.min_eq_left h]
    by_cases h2 : m ≤ xs.length
    · rw [Nat.min_eq_left h2]
    · rw [Nat.min_eq_right (by omega)]
      rw [List.take_of_length_le (by simp), List.take_of_length_le (by simp; omega)]
  · rw [Nat.min_eq_right (by omega : xs.length ≤ n), List.drop_length, List.drop_eq_nil_of_le (by omega : xs.length ≤ n)]
    simp
theorem cut_mid {α : Type} {xs : List α} {a b : Int} (ha : 0 ≤ a) (hb : 0 ≤ b) : cut xs (some a) (some b) = (xs.drop a.toNat).take (b.toNat - a.toNat) := by
  obtain ⟨n, rfl⟩ := Int.eq_ofNat_of_zero_le ha
  obtain ⟨m, rfl⟩ := Int.eq_ofNat_of_zero_le hb
  unfold cut
  rw [HT.sIx_nat, HT.sIx_nat, take_drop_min]
  rfl
theorem cut_to {α : Type} {xs : List α} {b : Int} (hb : 0 ≤ b) : cut xs none (some b) = xs.take b.toNat := by
  obtain ⟨m, rfl⟩ := Int.eq_ofNat_of_zero_le hb
  exact cut_pre
theorem cut_from {α : Type} {xs : List α} {b : Int} (hb : 0 ≤ b) : cut xs (some b) none = xs.drop b.toNat := by
  obtain ⟨m, rfl⟩ := Int.eq_ofNat_of_zero_le hb
  exact cut_suf
theorem cut_neg1 {α : Type} {xs : List α} : cut xs none (some (-1)) = xs.dropLast := by
  have e : HT.sIx xs.length xs.length (some (-1)) = xs.length - 1 := by
    unfold HT.sIx
    simp
    omega
  unfold cut
  rw [HT.sIx_none, e, List.drop_zero, List.dropLast_eq_take]
  rfl
theorem fuse {α β γ : Type} (f : α → β) (g : β → γ) (l : List α) : (l.map f).map g = l.map fun a => g (f a) := by simp
theorem sg_nil : Sg [] := fun _ h => nomatch h
theorem sg_dec {x : List Nat} (h : x.all (fun c => decide (c < 1114112)) = true) : Sg x := fun c hc => by
  have := List.all_eq_true.mp h c hc
  simpa using this
theorem sg_one {x : List Nat} {i : Nat} {c : Nat} (hs : Sg x) (h : x[i]? = some c) : Sg [c] := fun d hd => by
  rw [List.mem_singleton] at hd
  subst hd
  exact hs d (List.mem_of_getElem? h)
theorem sg_mem {x : List Nat} {c : Nat} (hs : Sg x) (h : c ∈ x) : Sg [c] := fun d hd => by
  rw [List.mem_singleton] at hd
  subst hd
  exact hs d h
theorem Sg.app {x y : List Nat} (hx : Sg x) (hy : Sg y) : Sg (x ++ y) := fun c h => (List.mem_append.mp h).elim (hx c) (hy c)
theorem Sg.cut {x : List Nat} (hx : Sg x) (lo hi : Option Int) : Sg (cut x lo hi) := fun c h => hx c (cut_mem h)
theorem Sg.take {x : List Nat} (hx : Sg x) (n : Nat) : Sg (x.take n) := fun c h => hx c (List.mem_of_mem_take h)
theorem Sg.drop {x : List Nat} (hx : Sg x) (n : Nat) : Sg (x.drop n) := fun c h => hx c (List.mem_of_mem_drop h)
theorem Sg.rep {x : List Nat} (hx : Sg x) (n : Nat) : Sg (rpt n x) := fun c h => by
  obtain ⟨l, hl, hc⟩ := List.mem_flatten.mp h
  rw [List.eq_of_mem_replicate hl] at hc
  exact hx c hc
theorem rpt_get {α : Type} {x : List α} {m n : Nat} (h : n < m * x.length) : (rpt m x)[n]? = x[n % x.length]? := by
  induction m generalizing n with
  | zero => omega
  | succ m ih =>
    unfold rpt at *
    rw [List.replicate_succ, List.flatten_cons]
    have hx : 0 < x.length := by
      rcases Nat.eq_zero_or_pos x.length with z | z
      · rw [z] at h; omega
      · exact z
    by_cases hn : n < x.length
    · rw [List.getElem?_append_left hn, Nat.mod_eq_of_lt hn]
    · rw [List.getElem?_append_right (by omega), ih (by rw [Nat.succ_mul] at h; omega), Nat.mod_eq_sub_mod (a := n) (by omega)]
end Qq

namespace Qq
open PySem PySem.Spec PyProof.Rows L2
/-! ### a caught exception, tracked -/
section
variable {X : Cx} {pins : List (Addr × Obj)} {σ : L2.St} {H : Hp} {s : Shared}
theorem exX_ok {P : Program} {w : World} {H : Hp} {h : Heap} {a : Addr} {cls : Value} {d : Option Addr} {oe : Obj} {vs : Array Value} (e : h.get? a = some oe) (z : Zc cls d oe) (hd : oe.data = .fields vs) : ObjOk P w H h a (ExX cls d a) :=
  ⟨⟨oe, vs, e, z, hd⟩, ⟨oe, e⟩, fun _ _ ⟨o, v, q, r⟩ k => ⟨o, v, k o q, r⟩⟩
theorem invTrack (I : Inv X pins σ H s) {a : Addr} {cls : Value} {d : Option Addr} {oe : Obj} {vs : Array Value} (ha : s.heap.get? a = some oe) (hd : oe.data = .fields vs) (hz : Zc cls d oe) (na : H a = none) (n0 : X.s_0.heap.get? a = none) (nL : a ≠ X.env.locals) (np : ∀ p ∈ X.pn ++ pins, p.1 ≠ a) :
    Inv X pins σ (upd H a (ExX cls d a)) s := by
  refine ⟨I.ok, I.os, I.bare, ⟨I.base.keep, I.base.slot, fun b o e n hx => ?_, I.base.there, fun b xs e => ?_, fun b o u e => ?_, fun b ps e => ?_⟩, I.loc, I.cell, ?_, fun x c e => ?_, fun p hp => ?_, ?_, I.len⟩
  · rw [upd_ne (fun q => by rw [q, n0] at e; cases e)]
    exact I.base.free b o e n hx
  · have z := I.base.tups b xs e
    rw [upd_ne (ne_of_none z na)]; exact z
  · have z := I.base.frzs b o u e
    rw [upd_ne (ne_of_none z na)]; exact z
  · obtain ⟨m, z⟩ := I.base.tbls b ps e
    exact ⟨m, by rw [upd_ne (ne_of_none z na)]; exact z⟩
  · rw [upd_ne (Ne.symm nL)]; exact I.free
  · rw [upd_ne (fun q => ?_)]
    · exact I.freeC x c e
    · obtain ⟨v, o, ho, hc⟩ := I.cell x c e
      rw [q, ha] at ho
      cases ho
      rw [hd] at hc; cases hc
  · obtain ⟨e, n, r⟩ := I.pin p hp
    exact ⟨e, by rw [upd_ne (np p hp)]; exact n, r⟩
  · exact I.hok.laidN (fun _ _ q => q) na (exX_ok ha hz hd)
theorem invSuiteT (I : Inv X pins σ H s) (a : Addr) : Inv (X.suite a (X.pn ++ pins)) [] σ H s :=
  ⟨I.ok.suite _ _, I.os, I.bare, I.base, I.loc, I.cell, I.free, I.freeC, fun p hp => I.pin p (by rw [List.append_nil] at hp; exact hp), I.hok, I.len⟩
theorem invUnsuiteT {a : Addr} {pn' : List (Addr × Obj)} (I : Inv (X.suite a (X.pn ++ pins)) pn' σ H s) (ok : X.Ok) : Inv X pins σ H s :=
  ⟨ok, I.os, I.bare, I.base, I.loc, I.cell, I.free, I.freeC, fun p hp => I.pin p (List.mem_append_left _ hp), I.hok, I.len⟩
end
/-- what the clause 'except x as n' wishes: the exception stands tracked behind -/
def wAsT (K : PySem.W.Frag) (c : Value) (i : Nat) (ts : TS) (Wout : WX) (D : Ends) : WX := fun cls d σ H =>
  ∃ b, PySem.W.exmOne K cls c = some b ∧ (b = true → ∀ a, H a = none → ts { nx := fun σ' H' => D.nx (σ'.set i none) H', rt := D.rt, bk := fun σ' H' => D.bk (σ'.set i none) H', ct := fun σ' H' => D.ct (σ'.set i none) H' } (σ.set i (some (.ref a))) (upd H a (ExX cls d a))) ∧
    (b = false → Wout cls d σ H)
section
variable {X : Cx} {x n : Str} {c : Value} {i : Nat} {body suite : List Stmt} {b₀ : Stmt} {np pos pos' : Pos} {tb : WX → TS} {ts : TS} {Wout : WX}
theorem ps_tryT (hs : X.stack = X.env :: X.outer) (hf : X.env.frame = some X.env.locals) (hex : X.ex = []) (hN : X.N.Nodup) (hi : X.N[i]? = some n) (hln : X.env.kindOf n = some .local) (hc : Names X x c) (tk : Takes X Wout)
    (hb : ∀ (W : WX) (pn : List (Addr × Obj)) (xe : Value → Shared → Prop), Takes (X.tr pn xe) W → PassesOwn (model X.prog X.w) X.A X.env xe → PSs (X.tr pn xe) body (tb W))
    (hsu : ∀ (a : Addr) (pn : List (Addr × Obj)), PSs (X.suite a pn) (b₀ :: suite) ts) :
    PS X (.Try body [.ExceptHandler (some (.Name x np)) (some n) (b₀ :: suite) pos'] [] [] pos) (fun D σ H => tb (wAsT X.K c i ts Wout D) D σ H) := by
  refine ⟨fun pins s σ H D I h => ?_⟩
  have ok := I.ok
  have hfr : X.A.frames = some (X.env :: X.outer) := by rw [ok.frames, hs]
  have hloc : Loc X.env.scope n := .inl hln
  refine wpAny_Try_except ?_
  refine wpAny_mono ((hb (wAsT X.K c i ts Wout D) (X.pn ++ pins) (fun e s₁ => wpAny (model X.prog X.w) X.A (noteFrame e X.env) (fun _ s₂ => wpAny (model X.prog X.w) X.A (setFlight e none) (fun _ s₃ =>
    wpAny (model X.prog X.w) X.A (handleBy e X.env [.ExceptHandler (some (.Name x np)) (some n) (b₀ :: suite) pos']) (SP X pins D) X.xe s₃) X.xe s₂) X.xe s₁) (fun u s' xx => ?_) PassesOwn.looking).run [] s σ H D (I.toTry _) h) (fun f s1 hsp => ?_) (fun e s1 he => he)
  · -- the catch
    obtain ⟨a, B, sI, pins', σ', H', cls, d, rfl, J', nb, up, sky, na, os, ag, b, hb1, hyes, hno⟩ := xx
    have J : Inv X pins σ' H' sI := J'.ofTry ok
    have sky' : Sky B (X.env :: X.outer) a (Zc cls d) X.env.locals s'.heap := by rw [← hs]; exact sky
    show wpAny (model X.prog X.w) X.A (noteFrame (.ref a) X.env) _ _ _
    refine Sky.land Zc.steady hfr hf sky' fun h3 fl3 up3 => ?_
    have J3 : Inv X pins σ' H' { s' with heap := h3 } := J.landed nb fl3.1 (up.trans up3) os ag
    obtain ⟨oe3, vs3, he3, hz3, hd3⟩ := fl3.there
    have notFr : ∀ {h : Heap} {o : Obj} {vs : Array Value}, h.FunFrames B (X.env :: X.outer) → h.get? a = some o → o.data = .fields vs → a ∉ frs (X.env :: X.outer) := fun {h o vs} ff e dd hm => by
      obtain ⟨_, o', e', hnf⟩ := ff.mem hm
      rw [e] at e'; cases e'
      exact hnf _ dd
    have nfr := notFr fl3.2.2.1 he3 hd3
    have nL : a ≠ X.env.locals := fun z => nfr (List.mem_filterMap.mpr ⟨X.env, List.mem_cons_self, by rw [hf, z]⟩)
    have nF : a ∉ X.fs := fun hm => by
      obtain ⟨e, he, q⟩ := List.mem_filterMap.mp hm
      exact nfr (List.mem_filterMap.mpr ⟨e, List.mem_cons_of_mem _ he, q⟩)
    have nI : sI.heap.get? a = none := by
      cases q : sI.heap.get? a with
      | none => rfl
      | some o =>
        have z := nb a o q (by rw [hs]; exact nfr)
        rw [fl3.2.1] at z; cases z
    have n0 : X.s_0.heap.get? a = none := by
      cases q : X.s_0.heap.get? a with
      | none => rfl
      | some o =>
        obtain ⟨o', z⟩ := J.base.there a o q (by rw [hex]; exact fun z => nomatch z)
        rw [nI] at z; cases z
    have nP : ∀ p ∈ X.pn ++ pins, p.1 ≠ a := fun p hp q => by
      obtain ⟨z, _⟩ := J.pin p hp
      rw [q, nI] at z; cases z
    have S3 := J3.suite he3 hd3 na nL nF
    refine wpAny_handleBy_cons (codeAny_handlers_test ?_) (by intro q; cases q)
    have LT : PySem.W.Looks (model X.prog X.w) h3 (typeOf (.ref a)) cls := fun A Q E s k q => wpAny_typeOf_ref (k _ _ he3) (by rw [hz3.1]; exact q)
    have LM := PySem.W.exm_one (M := model X.prog X.w) (J3.kIn) LT hb1
    have test : ∀ {Q : Value → Shared → Prop} {E : Value → Shared → Prop}, Q c { s' with heap := h3 } → wpAny (model X.prog X.w) (X.A.mark (some (.ref a))) (eval (.Name x np) X.env) Q E { s' with heap := h3 } := fun {Q E} q => by
      obtain ⟨hg, hdbg, hm | ⟨hm, hv, hnn⟩⟩ := hc
      · exact ld_glob (X := X.suite a ((a, oe3) :: (X.pn ++ pins))) S3 hg hm q hdbg
      · exact ld_blt (X := X.suite a ((a, oe3) :: (X.pn ++ pins))) S3 hg hm hv q hnn hdbg
    refine test (LM.here ?_)
    cases b with
    | true =>
      refine codeAny_handlers_suite_as ?_
      refine HandSPX.lands_againZ fl3 fun h4 fl4 up4 => ?_
      have J4 : Inv X pins σ' H' { s' with heap := h4 } := J.landed nb fl4.1 ((up.trans up3).trans up4) os ag
      obtain ⟨oe4, vs4, he4, hz4, hd4⟩ := fl4.there
      have S4 := invSuiteT (invTrack J4 he4 hd4 hz4 na n0 nL nP) a
      refine store_ok (X := X.suite a (X.pn ++ pins)) (v := .ref a) S4 hN hi hloc rfl (fun s5 S5 => ?_) (.inr hln)
      refine wpAny_mono ((hsu a (X.pn ++ pins)).run [] s5 _ _ _ S5 (hyes rfl a na)) (fun f s6 hsp => ?_) (fun _ _ z => False.elim z)
      have end_ : ∀ {σ6 : L2.St} {H6 : Hp} {Q : Shared → Prop}, Inv (X.suite a (X.pn ++ pins)) [] σ6 H6 s6 → (∀ s7, Inv X pins (σ6.set i none) H6 s7 → Q s7) →
          wpAny (model X.prog X.w) X.A (do bindName X.env n .none; unbindBehindTheSuite X.env n pos') (fun _ s7 => Q s7) X.xe s6 := fun {σ6 H6 Q} S6 hq => gone_ok (invUnsuiteT S6 ok) hN hi hln hq
      cases f with
      | next =>
        obtain ⟨σ6, H6, S6, q6⟩ := hsp
        exact end_ S6 fun s7 J7 => ⟨_, _, J7, q6⟩
      | brk =>
        obtain ⟨σ6, H6, S6, q6⟩ := hsp
        exact end_ S6 fun s7 J7 => ⟨_, _, J7, q6⟩
      | cont =>
        obtain ⟨σ6, H6, S6, q6⟩ := hsp
        exact end_ S6 fun s7 J7 => ⟨_, _, J7, q6⟩
      | ret u =>
        obtain ⟨v6, σ6, H6, S6, r6, q6⟩ := hsp
        exact end_ S6 fun s7 J7 => ⟨_, _, _, J7, r6, q6⟩
    | false =>
      show wpAny _ X.A (handleBy (.ref a) X.env []) _ _ _
      refine wpAny_handleBy_nil ?_
      obtain ⟨k1, k2, k3, oe, vs, T, oT, ts', he, hz, hd, h1, hr⟩ := id fl3
      unfold PySem.passOn
      refine wpAny_bind (wpAny_field he hd h1 ?_)
      rw [if_neg (show ¬ ((Value.ref T == Value.none) = true) from by simp)]
      have fin : wpAny (model X.prog X.w) X.A (setFlight (.ref a) X.env.frame) (fun _ s4 => wpAny (model X.prog X.w) X.A (throw (.ref a) : Sem Flow) (SP X pins D) X.xe s4) X.xe { s' with heap := h3 } := by
        rw [hf]
        refine HandSPX.setFlight_upZ fl3 fun h4 hh4 up4 => wpAny_throw (tk _ _ ?_)
        exact ⟨a, B, sI, pins, σ', H', cls, d, rfl, J, nb, (up.trans up3).trans up4, .inr (.inr (by rw [hs]; exact hh4)), na, os, ag, hno rfl⟩
      first
        | exact wpAny_bind (wpAny_pure (wpAny_bind fin))
        | exact wpAny_bind fin
  · cases f with
    | next =>
      obtain ⟨σ', H', J', q⟩ := hsp
      exact wpAny_execs_nil ⟨σ', H', J'.ofTry ok, q⟩
    | brk =>
      obtain ⟨σ', H', J', q⟩ := hsp
      exact ⟨σ', H', J'.ofTry ok, q⟩
    | cont =>
      obtain ⟨σ', H', J', q⟩ := hsp
      exact ⟨σ', H', J'.ofTry ok, q⟩
    | ret u =>
      obtain ⟨v, σ', H', J', r, q⟩ := hsp
      exact ⟨v, σ', H', J'.ofTry ok, r, q⟩
end

/-! ### e.f -/
def tXfT (K : PySem.W.Frag) (n : Str) (te : TE) : TE := fun σ H Q => te σ H fun x H1 => ∃ (a C dd : Addr) (fs : List (Str × V)) (v : V), x = .ref a ∧ H1 a = some (ExX (.ref C) (some dd) a) ∧ XfC K C ∧ PySem.W.findIn K (.ref C) n = some none ∧ H1 dd = some (.xd fs) ∧ fs.lookup n = some v ∧ Q v H1
theorem pe_xfT {X : Cx} {e : Expr} {te : TE} {pos : Pos} {n : Str} (he : PE X e te) (hb : attributeBase e n X.env (eval e X.env) = eval e X.env := by rfl) :
    PE X (.Attribute e n pos) (tXfT X.K n te) := by
  refine ⟨fun pins s σ H Q I h => ?_⟩
  refine attr_of hb (thn (he.run pins s σ H _ I h) fun u s1 hh => ?_)
  obtain ⟨x, H1, I1, rx, a, C, dd, fs, v, rfl, ha, T, hno, ea, l, q⟩ := hh
  obtain rfl : u = Value.ref a := rx
  obtain ⟨⟨oe, vs, ho, hz, hd⟩, _⟩ := I1.hok a _ ha
  have hx : ObjOk X.prog X.w H1 s1.heap dd (.xd fs) := I1.hok dd _ ea
  obtain ⟨mA, hns, hr⟩ := hx
  obtain ⟨od, ho', hl⟩ := lookIn_ns hns
  obtain ⟨u, hu, ru⟩ := RelO.some_of (v := v) (o := mA n) (by rw [← l]; exact hr n)
  have J : PySem.W.InstAt s1.heap a oe C (some od) := ⟨ho, hz.1, by unfold PySem.W.notCls; rw [hd] <;> rfl, by rw [hz.2]; exact ho'⟩
  exact HandSPX.exc_get I1.kIn J T.ga T.gg T.exC (PySem.W.findObj_own T.hdC hno rfl (by rw [hl, hu])) (handed_of ru) ⟨v, H1, I1.tok _, ru, q⟩
end Qq

namespace Qq
open PySem PySem.Spec PyProof.Rows L2
/-! ### isinstance(e, c), e a tracked exception -/
def rIsT (K : PySem.W.Frag) : List V → Hp → VK → Prop := fun xs H Q => ∃ (a C : Addr) (d : Option Addr) (c : V) (cv : Value) (b : Bool), xs = [.ref a, c] ∧ H a = some (ExX (.ref C) d a) ∧ (∀ dd, d = some dd → ∃ fs, H dd = some (.xd fs)) ∧ ExcC K C ∧ (∀ u, RelV c u → u = cv) ∧ PySem.W.kitOne K (.ref C) cv = some b ∧ Q (.bl b) H
theorem call_isT {X : Cx} : CallR X (.builtin "isinstance") (rIsT X.K) := by
  intro pins s σ H xs us Q I r h
  obtain ⟨a, C, d, c, cv, b, rfl, ha, hd, T, hcv, e, q⟩ := h
  cases r with
  | cons rx rr =>
    cases rr with
    | cons rt rr =>
      cases rr
      cases rx
      have ec := hcv _ rt
      subst ec
      obtain ⟨⟨oe, vs, hget, hz, hv⟩, _⟩ := I.hok a _ ha
      have J : ∃ od, PySem.W.InstAt s.heap a oe C od := by
        obtain ⟨oc, oD, oda, osl⟩ := oe
        obtain ⟨h1, h2⟩ := hz
        dsimp only at h1 h2 hv
        subst h1 h2 hv
        cases oD with
        | none => exact ⟨none, hget, rfl, rfl, trivial⟩
        | some dd =>
          obtain ⟨fs, hfs⟩ := hd dd rfl
          have hx : ObjOk X.prog X.w H s.heap dd (.xd fs) := I.hok dd _ hfs
          obtain ⟨mA, hns, hr⟩ := hx
          obtain ⟨od, ho', hl⟩ := lookIn_ns hns
          exact ⟨some od, hget, rfl, rfl, ho'⟩
      obtain ⟨od, J⟩ := J
      have hcl : (PySem.W.clsIn X.K C).isSome = true := by
        obtain ⟨cd, hc, _⟩ := PySem.W.any_some T.hd
        rw [hc]; rfl
      exact PySem.W.kia_one (PySem.W.kitx_exc hcl T.hg T.hk T.hs T.ha T.hn T.ht T.hm) I.kIn J e (fun z => nomatch z) fun tk => ⟨.bl b, H, I.kept (t' := tk) fun _ _ z => z, rfl, q⟩

/-! ### G.__init__(self, ..), G the own base class -/
structure GeC (K : PySem.W.Frag) (G : Addr) : Prop where
  ga : PySem.W.specialIn K (.ref G) "__getattribute__" = some (some (.builtin "type.__getattribute__"))
  rd : PySem.W.readsIn K G (.type "type") = true
  fi : PySem.W.findCls K (.ref G) (.type "type") "__init__" = some (.val (.builtin "ValueError.__init__"))
section
variable {X : Cx} {e : Expr} {es : List Expr} {ta : TA} {p1 p2 pos : Pos} {g : Str} {G : Addr}
theorem pe_geinit {pl : Sem Bool} (T : GeC X.K G) (hg : Gl X g) (hm : X.mg g = some (.ref G)) (ha : PA X (e :: es) ta) (hdb : (g == ("__debug__" : Str)) = false := by decide)
    (hc : eval (.Call (.Attribute (.Name g p1) "__init__" p2) (e :: es) [] pos) X.env = (do
      let ov ← eval (.Name g p1) X.env
      standAt p2.atName
      let (f, first) ← holding [ov] (getMethod ov "__init__" pl)
      callWith pos f first (backTo pos (starEach (e :: es) X.env)) (backToKw pos (keywordEach [] X.env))) := by rfl)
    (he : starEach (e :: es) X.env = (false, eval e X.env) :: starEach es X.env := by rfl) (hpl : (backTo pos (starEach es X.env)).any (·.1) = false := by rfl) :
    PE X (.Call (.Attribute (.Name g p1) "__init__" p2) (e :: es) [] pos) (tVeI X.K ta) := by
  refine ⟨fun pins s σ H Q I h => ?_⟩
  refine PySem.W.methodCall_KW (ld_glob I hg hm ?_ hdb) hc
  refine PySem.W.method_cls I.kIn T.ga (PySem.W.cls_value I.kIn T.rd T.fi rfl ?_)
  show wpAny _ _ (callWith pos (Value.builtin "ValueError.__init__") [] (backTo pos (starEach (e :: es) X.env)) []) _ _ _
  refine PyProof.Rows.callWith_method1 (thn (ha.run pos pins _ σ H _ (I.tok _) h) fun us s1 ⟨vs, H1, I1, r1, a, C, ws, ev, hl, T, ea, q⟩ => ?_) he hpl
  subst ev
  cases r1 with
  | @cons _ u0 _ ur ra rw' =>
    obtain rfl : u0 = Value.ref a := ra
    have hlen : ur.length ≤ sizeLine := by
      rw [← Paired.length rw', sizeLine_eq]
      omega
    exact oinit_ok T I1 ea hlen fun s' J => ⟨.non, H1, J, rfl, q⟩
end

/-! ### X(), X an own exception class without own __init__ -/
theorem pmk_own0 {X : Cx} {C : Addr} {bmB : List Value} {B newId initId : String} {x : Str} {p pos : Pos} (F : ExcBaseFacts B newId initId bmB) (q : PySem.W.excIn X.K C bmB newId = true) (gC : X.mg x = some (.ref C)) (kC : PySem.W.keepIn X.K (.ref C) = true) (r : Raises X (.ref C)) (hg : Gl X x)
    (hdb : (x == ("__debug__" : Str)) = false := by decide) : PMk X (.Call (.Name x p) [] [] pos) (fun _ H Q => Q (.ref C) none H) := by
  intro pins s σ H Q I h
  refine wpAny_Call_Name_kw (ld_glob I hg gC ?_ hdb)
  refine PySem.W.callWith_K0 I.kIn kC ?_
  show wpAny _ _ (call (.ref C) []) _ _ _
  obtain ⟨bm, N, nm, qn, bs, hdct, sn, sub, ab, col, dd, k0, k1, k2, k3, k5, mN, hC, hN, hni, T⟩ := exc_obj I.kIn q
  refine wpAny_call_exc_subT F T hC hN hni (fun h' e hm => ?_) (by show 0 ≤ sizeLine; rw [sizeLine_eq]; omega)
  exact mk_of I hm r h (I.hok.gone hm.new)
end Qq

namespace Qq
open PySem PySem.Spec PyProof.Rows L2
/-! ### facts of the exceptions' classes -/
/-- every exception class is GlueError or made of it -/
def excSub (x y : Str) : Bool := x == y || y == ("GlueError" : Str)
structure ExF (K : PySem.W.Frag) (xs fs : List Str) : Prop where
  exm : ∀ x ∈ xs, ∀ y ∈ xs, PySem.W.exmOne K (.ref (He.ga K x)) (.ref (He.ga K y)) = some (excSub x y)
  kit : ∀ x ∈ xs, ∀ y ∈ xs, PySem.W.kitOne K (.ref (He.ga K x)) (.ref (He.ga K y)) = some (excSub x y)
  kitV : ∀ x ∈ xs, PySem.W.kitOne K (.ref (He.ga K x)) (.type "ValueError") = some true
  isC : ∀ x ∈ xs, ExcC K (He.ga K x)
  xfC : ∀ x ∈ xs, XfC K (He.ga K x)
  noF : ∀ x ∈ xs, ∀ f ∈ fs, PySem.W.findIn K (.ref (He.ga K x)) f = some none
def excCB (K : PySem.W.Frag) (D : Addr) : Bool := decide (PySem.W.findIn K (.ref D) "__getattribute__" = some (some (.builtin "BaseException.__getattribute__"))) && decide (PySem.W.findIn K (.ref D) "__getattr__" = some none) && decide (PySem.W.subIn K (.ref D) (.type "BaseException") = some true) && PySem.W.hasDictIn K D &&
  decide (PySem.W.findIn K (.ref D) "__class__" = some (some (.builtin "object.__class__"))) && decide (PySem.W.specialIn K (.builtin "object.__class__") "__get__" = some (some (.builtin "getset_descriptor.__get__"))) && decide (PySem.W.takesIn K (.builtin "object.__class__") = some true) && decide (PySem.W.mroIn K D (.type "object") = some true)
theorem excCB_ok {K : PySem.W.Frag} {D : Addr} (h : excCB K D = true) : ExcC K D := by
  unfold excCB at h
  simp only [Bool.and_eq_true, decide_eq_true_eq] at h
  obtain ⟨⟨⟨⟨⟨⟨⟨h1, h2⟩, h3⟩, h4⟩, h5⟩, h6⟩, h7⟩, h8⟩ := h
  exact ⟨h1, h2, h3, h4, h5, h6, h7, h8⟩
def exFB (K : PySem.W.Frag) (xs fs : List Str) : Bool := xs.all fun x => (xs.all fun y => decide (PySem.W.exmOne K (.ref (He.ga K x)) (.ref (He.ga K y)) = some (excSub x y)) && decide (PySem.W.kitOne K (.ref (He.ga K x)) (.ref (He.ga K y)) = some (excSub x y))) &&
  (decide (PySem.W.kitOne K (.ref (He.ga K x)) (.type "ValueError") = some true) && (excCB K (He.ga K x) && (xfB K (He.ga K x) && fs.all fun f => decide (PySem.W.findIn K (.ref (He.ga K x)) f = some none))))
theorem exFB_ok {K : PySem.W.Frag} {xs fs : List Str} (h : exFB K xs fs = true) : ExF K xs fs := by
  unfold exFB at h
  rw [List.all_eq_true] at h
  have g : ∀ x ∈ xs, _ := fun x hx => Bool.and_eq_true_iff.mp (h x hx)
  refine ⟨fun x hx y hy => ?_, fun x hx y hy => ?_, fun x hx => ?_, fun x hx => ?_, fun x hx => ?_, fun x hx f hf => ?_⟩
  · exact of_decide_eq_true (Bool.and_eq_true_iff.mp (List.all_eq_true.mp (g x hx).1 y hy)).1
  · exact of_decide_eq_true (Bool.and_eq_true_iff.mp (List.all_eq_true.mp (g x hx).1 y hy)).2
  · exact of_decide_eq_true (Bool.and_eq_true_iff.mp (g x hx).2).1
  · exact excCB_ok (Bool.and_eq_true_iff.mp (Bool.and_eq_true_iff.mp (g x hx).2).2).1
  · exact xfB_ok (Bool.and_eq_true_iff.mp (Bool.and_eq_true_iff.mp (Bool.and_eq_true_iff.mp (g x hx).2).2).2).1
  · exact of_decide_eq_true (List.all_eq_true.mp (Bool.and_eq_true_iff.mp (Bool.and_eq_true_iff.mp (Bool.and_eq_true_iff.mp (g x hx).2).2).2).2 f hf)
/-- a class with its own __init__ -/
def oexB (K : PySem.W.Frag) (C : Addr) : Bool := match K.lookup C with
  | some ⟨.type "type", _, .cls cd, sl⟩ => (match cd.mro, sl.toList with
    | .ref C' :: bm, [_, _, _, _, some (.builtin n), _] => C' == C && n == "ValueError.__new__" && !cd.hasDel && cd.hasDict && HandSPX.refsVE bm
    | _, _ => false)
  | _ => false
theorem oexB_ok {K : PySem.W.Frag} {C : Addr} (q : oexB K C = true) : ∃ nm q N bs bm sn sub ab col dd k0 k1 k2 k3 k5, K.lookup C = some (excClassObj nm q C N bs bm true sn sub ab col dd k0 k1 k2 k3 k5 "ValueError.__new__") ∧ PySem.HandSPX.refsVE bm = true := by
  unfold oexB at q
  split at q
  · rename_i dd cd sl ho
    split at q
    · rename_i C' bm k0 k1 k2 k3 n k5 hm hs
      simp only [Bool.and_eq_true, beq_iff_eq, Bool.not_eq_true'] at q
      obtain ⟨⟨⟨⟨rfl, rfl⟩, hdel⟩, hdc⟩, ht⟩ := q
      obtain ⟨nm, bs, mro, ns, qn, hd, sn, sub, ab, col, del⟩ := cd
      dsimp only at hm hdel hdc
      subst hm hdel hdc
      have hsl : sl = #[k0, k1, k2, k3, some (.builtin "ValueError.__new__"), k5] := by
        obtain ⟨l⟩ := sl
        simp only at hs
        rw [hs]
      subst hsl
      exact ⟨nm, qn, ns, bs, bm, sn, sub, ab, col, dd, k0, k1, k2, k3, k5, ho, ht⟩
    · cases q
  · cases q
def oexCB (K : PySem.W.Frag) (C : Addr) : Bool := oexB K C && decide (PySem.W.findIn K (.ref C) "__setattr__" = some (some (.builtin "object.__setattr__"))) && decide (PySem.W.subIn K (.ref C) (.type "BaseException") = some true) && decide (PySem.W.typeIn K (.ref C) = some (.type "type")) && PySem.W.keepIn K (.ref C) &&
  decide (PySem.W.findIn K (.ref C) "__init__" = some (some (.ref (He.ma K C "__init__")))) && decide (PySem.W.typeIn K (.ref (He.ma K C "__init__")) = some (.type "function"))
/-- what is known of an exception's class with its own __init__ -/
structure OeF (K : PySem.W.Frag) (C : Addr) : Prop where
  c : OexC K C
  i : PySem.W.findIn K (.ref C) "__init__" = some (some (.ref (He.ma K C "__init__")))
  t : PySem.W.typeIn K (.ref (He.ma K C "__init__")) = some (.type "function")
theorem oexCB_ok {K : PySem.W.Frag} {C : Addr} (h : oexCB K C = true) : OeF K C := by
  unfold oexCB at h
  simp only [Bool.and_eq_true, decide_eq_true_eq] at h
  obtain ⟨⟨⟨⟨⟨⟨h1, h2⟩, h3⟩, h4⟩, h5⟩, h6⟩, h7⟩ := h
  exact ⟨⟨oexB_ok h1, h2, h3, h4, h5⟩, h6, h7⟩
def geB (K : PySem.W.Frag) (G : Addr) : Bool := decide (PySem.W.specialIn K (.ref G) "__getattribute__" = some (some (.builtin "type.__getattribute__"))) && PySem.W.readsIn K G (.type "type") && (match PySem.W.findCls K (.ref G) (.type "type") "__init__" with
  | some (.val (.builtin n)) => n == "ValueError.__init__"
  | _ => false)
theorem geB_ok {K : PySem.W.Frag} {G : Addr} (h : geB K G = true) : GeC K G := by
  unfold geB at h
  simp only [Bool.and_eq_true, decide_eq_true_eq] at h
  obtain ⟨⟨h1, h2⟩, h3⟩ := h
  refine ⟨h1, h2, ?_⟩
  split at h3
  · rename_i n e
    rw [beq_iff_eq] at h3
    rw [e, h3]
  · cases h3

/-! ### exceptions in the readings -/
structure Xn where
  C : Str
  ks : List Str
  ds : List D
abbrev XT := Xn → Sto → Prop
/-- the exception stands in the heap: class, fields -/
def XOk (K : PySem.W.Frag) (H : Hp) (cls : Value) (d : Option Addr) (x : Xn) : Prop := cls = .ref (He.ga K x.C) ∧ ((d = none ∧ x.ks = [] ∧ x.ds = []) ∨ ∃ dd vs, d = some dd ∧ H dd = some (.xd (x.ks.zip vs)) ∧ x.ks.length = vs.length ∧ RepL K H vs x.ds [])
/-- its dict is new -/
def NewD (H : Hp) (d : Option Addr) : Prop := ∀ dd, d = some dd → H dd = none
/-- .. and in no slot -/
def NewN (ns : Nat → List Addr) (d : Option Addr) : Prop := ∀ dd, d = some dd → ∀ j, dd ∉ ns j
def SimX (K : PySem.W.Frag) (tb : WX → TS) (p : XT → PS') : Prop := ∀ (M : List Addr) (Z : Addr → Prop) (H0 : Hp) (F : Addr → Prop) (ns : Nat → List Addr) (H : Hp) (σ : L2.St) (ρ : Sto) (E : PEn) (T : XT) (D : Ends) (W : WX),
  SR K M Z H0 F ns H σ ρ → p T E ρ → (∀ σ' H' ns' ρ', SR K M Z H0 F ns' H' σ' ρ' → Ext F H H' → E.nx ρ' → D.nx σ' H') →
  (∀ x v σ' H' ns' ρ', SR K M Z H0 F ns' H' σ' ρ' → Ext F H H' → VOk K Z H0 F ns' H' σ' ρ' v x → E.rt x ρ' → D.rt v H') →
  (∀ σ' H' ns' ρ', SR K M Z H0 F ns' H' σ' ρ' → Ext F H H' → E.bk ρ' → D.bk σ' H') →
  (∀ σ' H' ns' ρ', SR K M Z H0 F ns' H' σ' ρ' → Ext F H H' → E.ct ρ' → D.ct σ' H') →
  (∀ cls d x σ' H' ns' ρ', SR K M Z H0 F ns' H' σ' ρ' → Ext F H H' → XOk K H' cls d x → NewD H d → NewN ns' d → T x ρ' → W cls d σ' H') → tb W D σ H
section
variable {K : PySem.W.Frag} {M : List Addr} {Z : Addr → Prop} {H0 H H' : Hp} {F G : Addr → Prop} {ns : Nat → List Addr} {σ : L2.St} {ρ : Sto}
theorem NewD.back {d : Option Addr} (e : Ext F H H') (h : NewD H' d) : NewD H d := fun dd q => e.grow _ (h dd q)
theorem simX_up {t : TS} {p : PS'} (h : SimS K t p) : SimX K (fun _ => t) (fun _ => p) := fun M Z H0 F ns H σ ρ E T D W S hp kn kr kb kc kx => h M Z H0 F ns H σ ρ E D S hp kn kr kb kc
theorem simX_seq {t u : WX → TS} {p q : XT → PS'} (h : SimX K t p) (h' : SimX K u q) : SimX K (fun W => tSeq (t W) (u W)) (fun T => sSeq (p T) (q T)) := fun M Z H0 F ns H σ ρ E T D W S hp kn kr kb kc kx =>
  h M Z H0 F ns H σ ρ _ T _ W S hp (fun σ1 H1 ns1 ρ1 S1 e1 z => h' M Z H0 F ns1 H1 σ1 ρ1 E T D W S1 z (fun σ2 H2 ns2 ρ2 S2 e2 z => kn σ2 H2 ns2 ρ2 S2 (e1.trans e2) z)
    (fun x v σ2 H2 ns2 ρ2 S2 e2 vx z => kr x v σ2 H2 ns2 ρ2 S2 (e1.trans e2) vx z) (fun σ2 H2 ns2 ρ2 S2 e2 z => kb σ2 H2 ns2 ρ2 S2 (e1.trans e2) z) (fun σ2 H2 ns2 ρ2 S2 e2 z => kc σ2 H2 ns2 ρ2 S2 (e1.trans e2) z)
    (fun cls d x σ2 H2 ns2 ρ2 S2 e2 xo nd nn z => kx cls d x σ2 H2 ns2 ρ2 S2 (e1.trans e2) xo (nd.back e1) nn z)) kr kb kc kx
theorem simX_if {c : TT} {t u : WX → TS} {pc : PT'} {p q : XT → PS'} (hc : SimT K c pc) (h : SimX K t p) (h' : SimX K u q) : SimX K (fun W => tIfS c (t W) (u W)) (fun T => sIf pc (p T) (q T)) := fun M Z H0 F ns H σ ρ E T D W S hp kn kr kb kc kx => by
  refine hc M Z H0 F ns H σ ρ _ _ S hp fun b H1 ns1 ρ1 S1 e1 d1 z => ?_
  have n2 : ∀ σ' H' ns' ρ', SR K M Z H0 F ns' H' σ' ρ' → Ext F H1 H' → E.nx ρ' → D.nx σ' H' := fun σ2 H2 ns2 ρ2 S2 e2 z => kn σ2 H2 ns2 ρ2 S2 (e1.trans e2) z
  have r2 : ∀ x v σ' H' ns' ρ', SR K M Z H0 F ns' H' σ' ρ' → Ext F H1 H' → VOk K Z H0 F ns' H' σ' ρ' v x → E.rt x ρ' → D.rt v H' := fun x v σ2 H2 ns2 ρ2 S2 e2 vx z => kr x v σ2 H2 ns2 ρ2 S2 (e1.trans e2) vx z
  have b2 : ∀ σ' H' ns' ρ', SR K M Z H0 F ns' H' σ' ρ' → Ext F H1 H' → E.bk ρ' → D.bk σ' H' := fun σ2 H2 ns2 ρ2 S2 e2 z => kb σ2 H2 ns2 ρ2 S2 (e1.trans e2) z
  have c2 : ∀ σ' H' ns' ρ', SR K M Z H0 F ns' H' σ' ρ' → Ext F H1 H' → E.ct ρ' → D.ct σ' H' := fun σ2 H2 ns2 ρ2 S2 e2 z => kc σ2 H2 ns2 ρ2 S2 (e1.trans e2) z
  have x2 : ∀ cls d x σ' H' ns' ρ', SR K M Z H0 F ns' H' σ' ρ' → Ext F H1 H' → XOk K H' cls d x → NewD H1 d → NewN ns' d → T x ρ' → W cls d σ' H' := fun cls d x σ2 H2 ns2 ρ2 S2 e2 xo nd nn z => kx cls d x σ2 H2 ns2 ρ2 S2 (e1.trans e2) xo (nd.back e1) nn z
  cases b with
  | true => exact iteT (h M Z H0 F ns1 H1 σ ρ1 E T D W S1 (by simpa using z) n2 r2 b2 c2 x2)
  | false => exact iteF (h' M Z H0 F ns1 H1 σ ρ1 E T D W S1 (by simpa using z) n2 r2 b2 c2 x2)
theorem simX_for {w : TI} {p : PI'} {g : TG} {pg : PG'} {tb : WX → TS} {pb : XT → PS'} (hi : SimI K w p) (hg : SimG K g pg) (hb : SimX K tb pb) : SimX K (fun W => tFor w g (tb W)) (fun T => sFor p pg (pb T)) := fun M Z H0 F ns H σ ρ E T D W S hp kn kr kb kc kx => by
  refine hi M Z H0 F ns H σ ρ _ _ S hp fun J items F' H1 ns1 ρ1 S1 fF e1 d1 ok q => ?_
  refine ⟨fun i m σ2 H2 => m = items.length - i ∧ i ≤ items.length ∧ ∃ ns2 ρ2, SR K M Z H0 F' ns2 H2 σ2 ρ2 ∧ Ext F' H1 H2 ∧ pLoop pg (pb T) E (items.drop i) ρ2, ⟨items.length, by simp, Nat.zero_le _, ns1, ρ1, S1, .refl H1, by simpa using q⟩, ?_⟩
  rintro i m σ2 H2 ⟨rfl, hi, ns2, ρ2, S2, e2, q2⟩
  have e02 : Ext F H H2 := e1.trans (e2.weak fF)
  by_cases hlt : i < items.length
  · refine .inr ⟨ok.go i H2 e2 hlt, fun σ3 H3 => ∃ ns3 ρ3, SR K M Z H0 F' ns3 H3 σ3 ρ3 ∧ Ext F' H1 H3 ∧ pLoop pg (pb T) E (items.drop (i + 1)) ρ3, fun σ3 H3 ⟨ns3, ρ3, S3, e3, q3⟩ => ⟨items.length - (i + 1), by omega, rfl, hlt, ns3, ρ3, S3, e3, q3⟩, fun v H3 hy => ?_⟩
    obtain ⟨fr, d, ms, hx, sm, r, f, hF, hZ⟩ := ok.yld i H2 v H3 e2 hlt hy
    have hd : items.drop i = .v fr d :: items.drop (i + 1) := by
      rw [List.drop_eq_getElem_cons hlt]
      have : items[i] = .v fr d := by
        rw [List.getElem?_eq_getElem hlt] at hx
        exact Option.some.inj hx
      rw [this]
    rw [hd] at q2
    have S3 := S2.grow sm
    have e3 : Ext F' H1 H3 := e2.trans (.same sm)
    refine hg M Z H0 F' ns2 H3 σ2 ρ2 v _ _ _ S3 (.v r f (fun j a ow hm => S3.frz j a ow (hF a hm)) hZ) q2 fun σ4 H4 ns4 ρ4 S4 e4 q4 => ?_
    have e14 := e3.trans e4
    refine hb M Z H0 F' ns4 H4 σ4 ρ4 _ T _ W S4 q4 (fun σ5 H5 ns5 ρ5 S5 e5 q5 => ⟨ns5, ρ5, S5, e14.trans e5, q5⟩) (fun x u σ5 H5 ns5 ρ5 S5 e5 vx q5 => ?_) (fun σ5 H5 ns5 ρ5 S5 e5 q5 => ?_) (fun σ5 H5 ns5 ρ5 S5 e5 q5 => ⟨ns5, ρ5, S5, e14.trans e5, q5⟩) (fun cls d x σ5 H5 ns5 ρ5 S5 e5 xo nd nn q5 => ?_)
    · exact kr x u σ5 H5 ns5 ρ5 (S5.weak fF) (e1.trans ((e14.trans e5).weak fF)) (vx.weak fF) q5
    · exact kn σ5 H5 ns5 ρ5 (S5.weak fF) (e1.trans ((e14.trans e5).weak fF)) q5
    · exact kx cls d x σ5 H5 ns5 ρ5 (S5.weak fF) (e1.trans ((e14.trans e5).weak fF)) xo (nd.back (e1.trans (e14.weak fF))) nn q5
  · have ei : items.drop i = [] := List.drop_eq_nil_of_le (by omega)
    rw [ei] at q2
    exact .inl ⟨ok.stop i H2 e2 (by omega), kn σ2 H2 ns2 ρ2 (S2.weak fF) e02 q2⟩

/-! ### what a raising def promises -/
abbrev SpecX := List D → (Val → List D → Prop) → (Xn → Prop) → Prop
def spX (K : PySem.W.Frag) (n : Nat) (S : SpecX) : Sp := fun vs H Q E => vs.length = n ∧ ∃ (ds : List D) (nss : Nat → List Addr) (P : Val → List D → Prop) (T : Xn → Prop), ArgsOk K H none vs ds nss ∧ S ds P T ∧
  (∀ (v : V) (x : Val) (cs : List D) (H' : Hp), RetOk K H H' v x → Same H H' → P x cs → Q v H') ∧
  ∀ (cls : Value) (d : Option Addr) (xn : Xn) (H' : Hp), XOk K H' cls d xn → NewD H d → Same H H' → T xn → E cls d H'
theorem okX {P : Program} {w : World} {mg : Str → Option Value} {base : Heap} {x qual : Str} {params : Arguments} {bd : List Stmt} {scope : Scope} {dvs : List V} {kws : List (Str × V)} {f : Addr} {fd : FuncData} {N ps : List Str} {k : Nat} {S : SpecX} {body : XT → PS'}
    (Fn : FunD K x qual params bd scope dvs kws f fd) (sc : FnScope N ps scope)
    (der : ∀ (cdv : Value) (A : Around) (outer : List Env) (s : Shared) (H : Hp) (E : XK), Room k (A.deeper (envOfC qual scope s.heap.objs.size f cdv)) → PassesOwn (model P w) (A.deeper (envOfC qual scope s.heap.objs.size f cdv)) (envOfC qual scope s.heap.objs.size f cdv) (cxOf (CX P w) P w K mg base N qual scope f cdv A outer s H E).xe →
      ∃ tb : WX → TS, (∀ W, Takes (cxOf (CX P w) P w K mg base N qual scope f cdv A outer s H E) W → PSs (cxOf (CX P w) P w K mg base N qual scope f cdv A outer s H E) bd (tb W)) ∧ SimX K tb body)
    (pur : ∀ ds Q T, ds.length = ps.length → S ds Q T → body (fun x _ => T x) (ends none Q) (entry none (N.length - ps.length) ds)) : FnOk P w K mg base (CX P w) (k + 1) f fd ps (spX K ps.length S) := by
  refine Fn.ok sc (fun vs H Q E h => h.1) (fun cdv A outer s H vs Q E hr h => ?_)
  obtain ⟨hl, ds, nss, P', T', A', hS, hk, hx⟩ := h
  obtain ⟨tb, h1, h2⟩ := der cdv A outer s H E hr (passes_of rfl)
  have tk : Takes (cxOf (CX P w) P w K mg base N qual scope f cdv A outer s H E) (fun cls d _ H => E cls d H) := takes_of rfl rfl rfl rfl
  refine ⟨tb (fun cls d _ H => E cls d H), h1 _ tk, ?_⟩
  have hN : vs.length ≤ N.length := by
    have := congrArg List.length sc.pre
    rw [List.length_take] at this
    omega
  have S0 := entry_sr A' hN
  have p0 := pur ds P' T' (A'.len.symm.trans hl) hS
  rw [← hl] at p0
  have same : ∀ {ns' H' σ' ρ'}, SR K (muAt none vs) (fun _ => False) H (fun _ => False) ns' H' σ' ρ' → Same H H' := fun {ns' H' σ' ρ'} S' b o hb => S'.ent b o hb fun z => nomatch z
  have cont : ∀ x v σ' H' ns' ρ', SR K (muAt none vs) (fun _ => False) H (fun _ => False) ns' H' σ' ρ' → VOk K (fun _ => False) H (fun _ => False) ns' H' σ' ρ' v x → fin none P' x ρ' → Q v H' := fun x v σ' H' ns' ρ' S' vx q => by
    unfold fin at q
    split at q
    · rename_i y cs hy hc
      exact hk v y cs H' (exitV_ok S' vx hy) (same S') q
    · exact q.elim
  exact h2 _ _ H _ _ H _ _ (ends none P') _ _ _ S0 p0 (fun σ' H' ns' ρ' S' _ q => cont _ _ σ' H' ns' ρ' S' .non q) (fun x v σ' H' ns' ρ' S' _ vx q => cont x v σ' H' ns' ρ' S' vx q) (fun _ _ _ _ _ _ q => q.elim) (fun _ _ _ _ _ _ q => q.elim)
    (fun cls d x σ' H' ns' ρ' S' _ xo nd nn q => hx cls d x H' xo nd (same S') q)
/-- a call of it, as a statement -/
def sCallX (n : Nat) (S : SpecX) (p : PAs) (T : XT) : PS' := fun E ρ => p ρ fun xs ρ1 => match resAll ρ1 xs with
  | some ds => ds.length = n ∧ S ds (fun _ _ => E.nx ρ1) fun x => T x ρ1
  | none => False
theorem simX_call {n : Nat} {S : SpecX} {t : TA} {p : PAs} (h : SimA K t p) : SimX K (fun W => tDrop (tCallS (spX K n S) (WE W) t)) (sCallX n S p) := fun M Z H0 F ns H σ ρ E T D W Sr hp kn kr kb kc kx => by
  refine h M Z H0 F ns H σ ρ _ _ Sr hp fun xs vs H1 ns1 ρ1 S1 e1 d1 vxs q => ?_
  show spX K n S vs H1 _ _
  split at q
  · rename_i ds e
    obtain ⟨hn, hS⟩ := q
    obtain ⟨nl, l1, l2, an⟩ := args_nodes S1 vxs e
    refine ⟨l2.trans hn, ds, fun j => nl.getD j [], _, _, ⟨l2, fun i d hd => let ⟨v, x, a1, _, _, _, a5, _⟩ := an i d hd; ⟨v, a1, a5⟩, fun m z => nomatch z⟩, hS, fun v x cs H' ro sm hP => ?_, fun cls d xn H' xo nd sm hP => ?_⟩
    · exact kn σ H' ns1 ρ1 (S1.grow sm) (e1.trans (.same sm)) hP
    · exact kx cls d xn σ H' ns1 ρ1 (S1.grow sm) (e1.trans (.same sm)) xo (nd.back e1) (fun dd q j => S1.notIn (nd dd q) j) hP
  · exact q.elim
end
end Qq

namespace Qq
open PySem PySem.Spec PyProof.Rows L2

/-! ### an exception's __init__ -/
def spE (K : PySem.W.Frag) (C : Addr) (f : Str) : Sp := fun vs H Q E => ∃ (a : Addr) (v : V), vs = [.ref a, v] ∧ H a = some (exo a C none) ∧ ∀ dx, H dx = none → dx ≠ a → Q .non (upd (upd H dx (exd dx [(f, v)])) a (exo a C (some dx)))
theorem okE {P : Program} {w : World} {K : PySem.W.Frag} {mg : Str → Option Value} {base : Heap} {x qual : Str} {params : Arguments} {bd : List Stmt} {scope : Scope} {dvs : List V} {kws : List (Str × V)} {f : Addr} {fd : FuncData} {s a : Str} {k : Nat} {C : Addr} {n m : Str}
    (Fn : FunD K x qual params bd scope dvs kws f fd) (sc : FnScope [s, a] [s, a] scope) (T : OexC K C) (hno : PySem.W.findIn K (.ref C) n = some none)
    (der : ∀ (cdv : Value) (A : Around) (outer : List Env) (s' : Shared) (H : Hp) (E : XK), PSs (cxOf CX0 P w K mg base [s, a] qual scope f cdv A outer s' H E) bd (tSeq (tDrop (tVeI K (tCons (tVar 0) (tCons (tC (.str m)) tNil)))) (tOst K n (tVar 0) (tVar 1)))) :
    FnOk P w K mg base CX0 (k + 1) f fd [s, a] (spE K C n) := by
  refine Fn.ok sc (fun vs H Q E h => ?_) (fun cdv A outer s' H vs Q E hr h => ?_)
  · obtain ⟨a', v, rfl, _⟩ := h
    rfl
  · obtain ⟨e, v, rfl, he, h⟩ := h
    refine ⟨_, der cdv A outer s' H E, ?_⟩
    refine ⟨.ref e, rfl, e, C, [.str m], rfl, by simp, T, he, ?_⟩
    exact ⟨v, rfl, .ref e, rfl, e, C, rfl, T, hno, .inl ⟨he, fun dx hn ne => h dx hn ne⟩⟩

section
variable {K : PySem.W.Frag} {M : List Addr} {Z : Addr → Prop} {H0 H H' : Hp} {F G : Addr → Prop} {ns : Nat → List Addr} {σ : L2.St} {ρ : Sto}
/-! ### raise -/
def sRaise (C f : Str) (p : PX) (T : XT) : PS' := fun E ρ => p ρ fun x ρ1 => match res ρ1 x with
  | some d => imm d = true ∧ T ⟨C, [f], [d]⟩ ρ1
  | none => False
def sRaise0 (C : Str) (T : XT) : PS' := fun E ρ => T ⟨C, [], []⟩ ρ
theorem simX_raise {C f : Str} {t : TE} {p : PX} (h : Sim K t p) : SimX K (fun W _ σ H => tMkO (He.ga K C) (spE K (He.ga K C) f) [] (tCons t tNil) σ H fun cls d H' => W cls d σ H') (sRaise C f p) := fun M Z H0 F ns H σ ρ E T D W S hp kn kr kb kc kx => by
  refine h M Z H0 F ns H σ ρ _ _ S hp fun x v H1 ns1 ρ1 S1 e1 d1 vx q => ?_
  split at q
  · rename_i d hx
    obtain ⟨hi, q⟩ := q
    obtain ⟨ms, r⟩ := vx.rep S1 hx
    have r0 : Rep K H1 v d [] := by
      have z := r.imm hi
      rw [z] at r; exact r
    refine ⟨by simp, fun a na => ⟨a, v, rfl, upd_same, fun dx hdx ne => ?_⟩⟩
    have nd : H1 dx = none := by rw [upd_ne ne] at hdx; exact hdx
    have eH : upd (del (upd (upd (upd H1 a (exo a (He.ga K C) none)) dx (exd dx [(f, v)])) a (exo a (He.ga K C) (some dx))) a) dx (.xd [(f, v)]) = upd H1 dx (.xd [(f, v)]) := by
      funext b
      by_cases hb : b = dx
      · rw [hb, upd_same, upd_same]
      · rw [upd_ne hb, upd_ne hb]
        by_cases hba : b = a
        · rw [hba, del_same, na]
        · rw [del_ne hba, upd_ne hba, upd_ne hb, upd_ne hba]
    refine ⟨rfl, dx, [(f, v)], upd_same, by rw [upd_ne ne, upd_same], nd, ?_⟩
    rw [eH]
    have sm : Same H1 (upd H1 dx (.xd [(f, v)])) := fun b o z => by rw [upd_ne (ne_of_none z nd)]; exact z
    refine kx _ _ ⟨C, [f], [d]⟩ σ _ ns1 ρ1 (S1.grow sm) (e1.trans (.same sm)) ⟨rfl, .inr ⟨dx, [v], rfl, upd_same, rfl, ?_⟩⟩ (fun dd q => by cases q; exact e1.grow _ nd) (fun dd q j => by cases q; exact S1.notIn nd j) q
    exact RepL.one (r0.frame (Ext.same (F := fun _ => True) sm) fun _ _ => trivial)
  · exact q.elim
theorem simX_raise0 {C : Str} : SimX K (fun W _ σ H => W (.ref (He.ga K C)) none σ H) (sRaise0 C) := fun M Z H0 F ns H σ ρ E T D W S hp kn kr kb kc kx =>
  kx _ _ ⟨C, [], []⟩ σ H ns ρ S (.refl H) ⟨rfl, .inl ⟨rfl, rfl, rfl⟩⟩ (fun _ q => nomatch q) (fun _ q => nomatch q) hp

/-! ### try: body / except Y as e: suite -/
theorem SR.clr (S : SR K M Z H0 F ns H σ ρ) (i : Nat) : ∃ ns', SR K M Z H0 F ns' H (σ.set i none) (ρ.set i none) := S.wipe [i]
def sTry (xs : List Str) (y : Str) (i : Nat) (body : XT → PS') (suite : PS') : PS' := fun E ρ =>
  body (fun x ρ' => decide (x.C ∈ xs) = true ∧ excSub x.C y = true ∧ i < ρ'.length ∧ suite { nx := fun ρ'' => E.nx (ρ''.set i none), rt := E.rt, bk := fun ρ'' => E.bk (ρ''.set i none), ct := fun ρ'' => E.ct (ρ''.set i none) } (ρ'.set i (some (.sh true (.exn x.C x.ks x.ds))))) E ρ
theorem simS_try {xs fs : List Str} {y : Str} {i : Nat} {tb : WX → TS} {pb : XT → PS'} {ts : TS} {ps : PS'} (ex : ExF K xs fs) (hy : y ∈ xs) (h : SimX K tb pb) (hs : SimS K ts ps) :
    SimS K (fun D σ H => tb (wAsT K (.ref (He.ga K y)) i ts (fun _ _ _ _ => False) D) D σ H) (sTry xs y i pb ps) := fun M Z H0 F ns H σ ρ E D S hp kn kr kb kc => by
  refine h M Z H0 F ns H σ ρ E _ D _ S hp kn kr kb kc fun cls d x σ' H' ns' ρ' S' e1 xo nd nn q => ?_
  obtain ⟨hm, hsb, hi, q⟩ := q
  have hm' : x.C ∈ xs := of_decide_eq_true hm
  obtain ⟨rfl, xo⟩ := xo
  refine ⟨true, by rw [ex.exm _ hm' _ hy, hsb], fun _ a na => ?_, fun z => nomatch z⟩
  have sm : Same H' (upd H' a (ExX (.ref (He.ga K x.C)) d a)) := fun b o z => by rw [upd_ne (ne_of_none z na)]; exact z
  have S2 := S'.grow sm
  have e2 : Ext F H (upd H' a (ExX (.ref (He.ga K x.C)) d a)) := e1.trans (.same sm)
  have na0 : H a = none := e1.grow _ na
  have rep : ∃ ms, Rep K (upd H' a (ExX (.ref (He.ga K x.C)) d a)) (.ref a) (.exn x.C x.ks x.ds) ms ∧ ∀ b ∈ ms, H b = none ∧ ∀ j, b ∉ ns' j := by
    rcases xo with ⟨rfl, h1, h2⟩ | ⟨dd, vs, rfl, h1, h2, h3⟩
    · rw [h1, h2]
      refine ⟨[a], .exn0 upd_same, fun b hb => ?_⟩
      rw [List.mem_singleton.mp hb]
      exact ⟨na0, fun j => S'.notIn na j⟩
    · have nda : dd ≠ a := ne_of_none h1 na
      refine ⟨[a, dd], .exn1 upd_same (by rw [upd_ne nda]; exact h1) h2 (h3.frame (Ext.same (F := fun _ => True) sm) fun _ _ => trivial), fun b hb => ?_⟩
      rcases List.mem_cons.mp hb with z | z
      · rw [z]; exact ⟨na0, fun j => S'.notIn na j⟩
      · rw [List.mem_singleton.mp z]
        exact ⟨nd dd rfl, fun j => nn dd rfl j⟩
  obtain ⟨ms, r, hms⟩ := rep
  have S3 := S2.setSh (i := i) hi r (fr := true) (fun _ b hb => S.fresh (hms b hb).1) (fun j b ow hb => ?_) (fun b hb z => ?_)
  · refine hs M Z H0 F _ _ _ _ _ _ S3 q (fun σ2 H2 ns2 ρ2 T2 e3 z => ?_) (fun x2 v2 σ2 H2 ns2 ρ2 T2 e3 vx z => kr x2 v2 σ2 H2 ns2 ρ2 T2 (e2.trans e3) vx z) (fun σ2 H2 ns2 ρ2 T2 e3 z => ?_) (fun σ2 H2 ns2 ρ2 T2 e3 z => ?_)
    · obtain ⟨ns3, T3⟩ := T2.clr i
      exact kn _ H2 ns3 _ T3 (e2.trans e3) z
    · obtain ⟨ns3, T3⟩ := T2.clr i
      exact kb _ H2 ns3 _ T3 (e2.trans e3) z
    · obtain ⟨ns3, T3⟩ := T2.clr i
      exact kc _ H2 ns3 _ T3 (e2.trans e3) z
  · exact (hms _ hb).2 j ow.mem
  · obtain ⟨o, e⟩ := S.zdm b z
    rw [(hms b hb).1] at e; cases e

/-! ### e.f, isinstance(e, Y) -/
def pXf (xs : List Str) (n : Str) (p : PX) : PX := fun ρ P => p ρ fun x ρ1 => match res ρ1 x with
  | some (.exn C [f] [d]) => decide (C ∈ xs) = true ∧ f = n ∧ imm d = true ∧ P (.v true d) ρ1
  | _ => False
theorem sim_xf {xs fs : List Str} {n : Str} {t : TE} {p : PX} (ex : ExF K xs fs) (hn : n ∈ fs) (h : Sim K t p) : Sim K (tXfT K n t) (pXf xs n p) := fun M Z H0 F ns H σ ρ P Q S hp k =>
  h M Z H0 F ns H σ ρ _ _ S hp fun x v H1 ns1 ρ1 S1 e1 d1 vx q => by
    split at q
    · rename_i C f d hx
      obtain ⟨hm, rfl, hi, q⟩ := q
      have hm' : C ∈ xs := of_decide_eq_true hm
      obtain ⟨ms, r⟩ := vx.rep S1 hx
      cases r with
      | @exn1 a dd _ _ vs _ nl h1 h2 hl rl =>
      cases rl with
      | @cons v' vs' _ _ n1 n2 _ r1 r2 hq =>
      cases r2
      refine ⟨a, _, dd, _, v', rfl, h1, ex.xfC _ hm', ex.noF _ hm' _ hn, h2, by simp [List.lookup], k _ _ H1 ns1 ρ1 S1 e1 d1 ?_ q⟩
      have z := r1.imm hi
      rw [z] at r1
      exact .v r1 (fun _ _ z => nomatch z) (fun _ _ _ z => nomatch z) (fun _ z => nomatch z)
    · exact q.elim
/-- of an own class -/
def pIsT (xs : List Str) (y : Str) (p : PX) : PX := fun ρ P => p ρ fun x ρ1 => match res ρ1 x with
  | some (.exn C _ _) => decide (C ∈ xs) = true ∧ P (.v true (.bl (excSub C y))) ρ1
  | _ => False
def pIsV (xs : List Str) (p : PX) : PX := fun ρ P => p ρ fun x ρ1 => match res ρ1 x with
  | some (.exn C _ _) => decide (C ∈ xs) = true ∧ P (.v true (.bl true)) ρ1
  | _ => False
theorem rep_exn {C : Str} {ks : List Str} {ds : List D} {v : V} {ms : List Addr} (r : Rep K H v (.exn C ks ds) ms) : ∃ a d, v = .ref a ∧ H a = some (ExX (.ref (He.ga K C)) d a) ∧ ∀ dd, d = some dd → ∃ fs, H dd = some (.xd fs) := by
  cases r with
  | exn0 h => exact ⟨_, _, rfl, h, fun _ q => nomatch q⟩
  | exn1 h1 h2 _ _ => exact ⟨_, _, rfl, h1, fun dd q => by cases q; exact ⟨_, h2⟩⟩
theorem sim_isT {xs fs : List Str} {y : Str} {t : TE} {p : PX} (ex : ExF K xs fs) (hy : y ∈ xs) (h : Sim K t p) : Sim K (tCB (rIsT K) (tCons t (tCons (tC (.ref (He.ga K y))) tNil))) (pIsT xs y p) := fun M Z H0 F ns H σ ρ P Q S hp k =>
  h M Z H0 F ns H σ ρ _ _ S hp fun x v H1 ns1 ρ1 S1 e1 d1 vx q => by
    split at q
    · rename_i C ks ds hx
      obtain ⟨hm, q⟩ := q
      have hm' : C ∈ xs := of_decide_eq_true hm
      obtain ⟨ms, r⟩ := vx.rep S1 hx
      obtain ⟨a, d, rfl, h1, h2⟩ := rep_exn r
      exact ⟨a, _, d, _, _, _, rfl, h1, h2, ex.isC _ hm', fun u z => z, ex.kit _ hm' _ hy, k _ _ H1 ns1 ρ1 S1 e1 d1 (.bl _) q⟩
    · exact q.elim
theorem sim_isV {xs fs : List Str} {t : TE} {p : PX} (ex : ExF K xs fs) (h : Sim K t p) : Sim K (tCB (rIsT K) (tCons t (tCons (tC (.ty "ValueError")) tNil))) (pIsV xs p) := fun M Z H0 F ns H σ ρ P Q S hp k =>
  h M Z H0 F ns H σ ρ _ _ S hp fun x v H1 ns1 ρ1 S1 e1 d1 vx q => by
    split at q
    · rename_i C ks ds hx
      obtain ⟨hm, q⟩ := q
      have hm' : C ∈ xs := of_decide_eq_true hm
      obtain ⟨ms, r⟩ := vx.rep S1 hx
      obtain ⟨a, d, rfl, h1, h2⟩ := rep_exn r
      exact ⟨a, _, d, _, _, _, rfl, h1, h2, ex.isC _ hm', fun u z => z, ex.kitV _ hm', k _ _ H1 ns1 ρ1 S1 e1 d1 (.bl _) q⟩
    · exact q.elim
end
end Qq

namespace Qq
open PySem PySem.Spec PyProof.Rows L2
/-! ### the judgements: statements that may raise -/
structure QX1 (X : Cx) (st : Stmt) (tb : WX → TS) (p : XT → PS') : Prop where
  ps : ∀ W, Takes X W → PS X st (tb W)
  sim : SimX X.K tb p
structure QXs (X : Cx) (st : List Stmt) (tb : WX → TS) (p : XT → PS') : Prop where
  pss : ∀ W, Takes X W → PSs X st (tb W)
  sim : SimX X.K tb p
section
variable {X : Cx} {st : Stmt} {rest body orelse : List Stmt} {t : TS} {p : PS'} {tb ub : WX → TS} {pb qb : XT → PS'} {pos p1 p2 : Pos} {c e : Expr} {es : List Expr} {tr : TA} {pr : PAs} {te : TE} {pe : PX}
theorem qx_of (h : QS X st t p) : QX1 X st (fun _ => t) (fun _ => p) := ⟨fun _ _ => h.ps, simX_up h.sim⟩
theorem qxnil : QXs X [] (fun _ => tNext) (fun _ => sNext) := ⟨fun _ _ => pss_nil, simX_up simS_next⟩
theorem qxone (h : QX1 X st tb pb) : QXs X [st] tb pb := ⟨fun W k => pss_one (h.ps W k), h.sim⟩
theorem qxcons (h : QX1 X st tb pb) (h' : QXs X rest ub qb) : QXs X (st :: rest) (fun W => tSeq (tb W) (ub W)) (fun T => sSeq (pb T) (qb T)) := ⟨fun W k => pss_cons (h.ps W k) (h'.pss W k), simX_seq h.sim h'.sim⟩
theorem qxif {tc : TT} {pc : PT'} (hc : QT X c tc pc) (h : QXs X body tb pb) (h' : QXs X orelse ub qb) : QX1 X (.If c body orelse pos) (fun W => tIfS tc (tb W) (ub W)) (fun T => sIf pc (pb T) (qb T)) := ⟨fun W k => ps_if hc.pt (h.pss W k) (h'.pss W k), simX_if hc.sim h.sim h'.sim⟩
theorem qxfor {tg : Expr} {vs : List Nat} {w : TI} {pi : PI'} {g : TG} {pg : PG'} (hp : PassesOwn (model X.prog X.w) X.A X.env X.xe) (hc : X.calm = true) (hi : QI X tg e w pi) (hg : QG X tg vs g pg) (hb : QXs X body tb pb) (hs : ∀ x, foldedSetIterable e X.env x = pure x := by intro _; rfl) :
    QX1 X (.For tg e body [] pos) (fun W => tFor w g (tb W)) (fun T => sFor pi pg (pb T)) := ⟨fun W k => ps_for hp hc hi.pi hg.pg (hb.pss W k) hs, simX_for hi.sim hg.sim hb.sim⟩
end
theorem qxder {X : Cx} {bd : List Stmt} {tb : WX → TS} {p : XT → PS'} (h : QXs X bd tb p) : ∃ tb : WX → TS, (∀ W, Takes X W → PSs X bd (tb W)) ∧ SimX X.K tb p := ⟨tb, h.pss, h.sim⟩
/-! raising -/
/-- an exception's class with its own __init__, as the program tells it -/
def GotE (P : Program) (w : World) (K : PySem.W.Frag) (mg : Str → Option Value) (base : Heap) (k : Nat) (C : Str) (ps : List Str) (f : Str) : Prop :=
  ∃ (fd : FuncData), FnOk P w K mg base CX0 k (He.ma K (He.ga K C) "__init__") fd ps (spE K (He.ga K C) f) ∧ OeF K (He.ga K C) ∧ mg C = some (.ref (He.ga K C)) ∧ Binds K fd ps []
/-- .. without -/
def GotE0 (K : PySem.W.Frag) (mg : Str → Option Value) (C : Str) : Prop := PySem.W.excIn K (He.ga K C) He.veBase "ValueError.__new__" = true ∧ PySem.W.keepIn K (.ref (He.ga K C)) = true ∧ PySem.W.subIn K (.ref (He.ga K C)) (.type "BaseException") = some true ∧ PySem.W.typeIn K (.ref (He.ga K C)) = some (.type "type") ∧ mg C = some (.ref (He.ga K C))
section
variable {X : Cx} {e : Expr} {te : TE} {pe : PX} {pos p1 : Pos} {C f : Str} {k : Nat} {ps : List Str}
theorem qraise (g : GotE X.prog X.w X.K X.mg X.base k C ps f) (hr : Room (k + 1) X.A) (hc : X.calm = true) (h : QE X e te pe) (hg : Gl X C := by rfl) (hdb : (C == ("__debug__" : Str)) = false := by decide) (he : starEach (e :: []) X.env = (false, eval e X.env) :: starEach [] X.env := by rfl) :
    QX1 X (.Raise (some (.Call (.Name C p1) [e] [] pos)) none p2) (fun W _ σ H => tMkO (He.ga X.K C) (spE X.K (He.ga X.K C) f) [] (tCons te tNil) σ H fun cls d H' => W cls d σ H') (sRaise C f pe) := by
  obtain ⟨fd, F, oe, hm, b⟩ := g
  exact ⟨fun W tk => ps_raise hc tk (pmk_oex oe.c oe.i oe.t F hr b .nil pass0 hg hm (pa_cons h.pe pa_nil he) hdb he), simX_raise h.sim⟩
theorem qraise0 (g : GotE0 X.K X.mg C) (hc : X.calm = true) (hg : Gl X C := by rfl) (hdb : (C == ("__debug__" : Str)) = false := by decide) :
    QX1 X (.Raise (some (.Call (.Name C p1) [] [] pos)) none p2) (fun W _ σ H => W (.ref (He.ga X.K C)) none σ H) (sRaise0 C) := by
  obtain ⟨h1, h2, h3, h4, hm⟩ := g
  exact ⟨fun W tk => ps_raise hc tk (pmk_own0 F.excBase_ValueError h1 hm h2 (raises_own h3 h4) hg hdb), simX_raise0⟩
end
/-! defs that raise -/
def GotX (P : Program) (w : World) (K : PySem.W.Frag) (mg : Str → Option Value) (base : Heap) (k : Nat) (x : Str) (ps : List Str) (n : Nat) (S : SpecX) : Prop :=
  ∃ (f : Addr) (fd : FuncData), FnOk P w K mg base (CX P w) k f fd ps (spX K n S) ∧ mg x = some (.ref f) ∧ PySem.W.keepIn K (.ref f) = true ∧ Binds K fd ps []
/-- what it is worth where it does not raise -/
def nX (S : SpecX) : Spec' := fun ds P => S ds P fun _ => False
theorem passE {P : Program} {w : World} {X : Cx} (hP : X.prog = P) (hw : X.w = w) : Passes (CX P w) X E0 := fun _ _ _ _ _ _ _ h => by
  obtain ⟨_, _, _, _, _, _, _, _, _, _, _, _, z⟩ := h
  exact z.elim
theorem spX_spQ {K : PySem.W.Frag} {n : Nat} {S : SpecX} : ∀ vs H Q E, spQ K n none (nX S) vs H Q E → spX K n S vs H Q E := fun vs H Q E h => by
  obtain ⟨hl, ds, nss, P, A, hS, hk⟩ := h
  exact ⟨hl, ds, nss, P, fun _ => False, A, hS, fun v x cs H' ro sm hP => hk v x cs H' ro (fun b o z _ => sm b o z) (fun m a z => nomatch z) hP, fun _ _ _ _ _ _ _ z => z.elim⟩
section
variable {X : Cx} {e : Expr} {es : List Expr} {tr : TA} {pr : PAs} {p1 pos : Pos} {x : Str} {k n : Nat} {ps : List Str} {S : SpecX}
theorem qcallX (G : GotX X.prog X.w X.K X.mg X.base k x ps n S) (hr : Room k X.A) (ha : QA X (e :: es) tr pr)
    (hg : Gl X x := by rfl) (hdb : (x == ("__debug__" : Str)) = false := by decide) (he : starEach (e :: es) X.env = (false, eval e X.env) :: starEach es X.env := by rfl) (hpl : (backTo pos (starEach es X.env)).any (·.1) = false := by rfl) : QE X (.Call (.Name x p1) (e :: es) [] pos) (tCall (spQ X.K n none (nX S)) [] E0 tr) (pCall n none (nX S) pr) := by
  obtain ⟨f, fd, h1, h2, h3, h4⟩ := G
  exact ⟨pe_call (h1.imp spX_spQ) hr hg h2 h3 h4 .nil (passE rfl rfl) ha.pa hdb he hpl, sim_call ha.sim⟩
theorem qxcall (G : GotX X.prog X.w X.K X.mg X.base k x ps n S) (hr : Room k X.A) (ha : QA X (e :: es) tr pr) (hs : swapsWith (.Call (.Name x p1) (e :: es) [] pos) none p2.line X.env = pure false := by rfl)
    (hg : Gl X x := by rfl) (hdb : (x == ("__debug__" : Str)) = false := by decide) (he : starEach (e :: es) X.env = (false, eval e X.env) :: starEach es X.env := by rfl) (hpl : (backTo pos (starEach es X.env)).any (·.1) = false := by rfl) :
    QX1 X (.Expr (.Call (.Name x p1) (e :: es) [] pos) p2) (fun W => tDrop (tCallS (spX X.K n S) (WE W) tr)) (sCallX n S pr) := by
  obtain ⟨f, fd, h1, h2, h3, h4⟩ := G
  exact ⟨fun W tk => ps_expr (pe_callS h1 hr hg h2 h3 h4 (fun σ => passAt tk σ) ha.pa hdb he hpl) hs, simX_call ha.sim⟩
end
/-! try, e.f, isinstance -/
structure ExG (K : PySem.W.Frag) (mg : Str → Option Value) (xs fs : List Str) : Prop where
  f : ExF K xs fs
  g : ∀ x ∈ xs, mg x = some (.ref (He.ga K x))
section
variable {X : Cx} {xs fs : List Str} {x n : Str} {body suite : List Stmt} {b₀ : Stmt} {np pos pos' p1 p2 : Pos} {tb : WX → TS} {pb : XT → PS'} {ts : TS} {ps : PS'} {e : Expr} {te : TE} {pe : PX}
theorem takes_false : Takes X (fun _ _ _ _ => False) := fun u s' h => by
  obtain ⟨_, _, _, _, _, _, _, _, _, _, _, _, _, _, _, _, z⟩ := h
  exact z.elim
theorem qtry {i : Nat} (ex : ExG X.K X.mg xs fs) (hx : x ∈ xs) (hs : X.stack = X.env :: X.outer) (hf : X.env.frame = some X.env.locals) (hex : X.ex = []) (hN : X.N.Nodup) (hi : X.N[i]? = some n) (hln : X.env.kindOf n = some .local) (hg : Gl X x) (hdb : (x == ("__debug__" : Str)) = false) (hb0 : QXs X body tb pb) (hs0 : QSs X (b₀ :: suite) ts ps)
    (hb : ∀ (pn : List (Addr × Obj)) (xe : Value → Shared → Prop), PassesOwn (model X.prog X.w) X.A X.env xe → QXs (X.tr pn xe) body tb pb) (hsu : ∀ (a : Addr) (pn : List (Addr × Obj)), QSs (X.suite a pn) (b₀ :: suite) ts ps) :
    QS X (.Try body [.ExceptHandler (some (.Name x np)) (some n) (b₀ :: suite) pos'] [] [] pos) (fun D σ H => tb (wAsT X.K (.ref (He.ga X.K x)) i ts (fun _ _ _ _ => False) D) D σ H) (sTry xs x i pb ps) :=
  ⟨ps_tryT hs hf hex hN hi hln ⟨hg, hdb, .inl (ex.g x hx)⟩ takes_false (fun W pn xe tk po => (hb pn xe po).pss W tk) (fun a pn => (hsu a pn).pss), simS_try ex.f hx hb0.sim hs0.sim⟩
theorem qxf (ex : ExG X.K X.mg xs fs) (hn : n ∈ fs) (h : QE X e te pe) (hb : attributeBase e n X.env (eval e X.env) = eval e X.env := by rfl) : QE X (.Attribute e n pos) (tXfT X.K n te) (pXf xs n pe) := ⟨pe_xfT h.pe hb, sim_xf ex.f hn h.sim⟩
theorem qisT {y : Str} {np : Pos} (ex : ExG X.K X.mg xs fs) (hy : y ∈ xs) (hm : X.mg "isinstance" = none) (h : QE X e te pe) (hg : Gl X "isinstance" := by rfl) (hgy : Gl X y := by rfl) (hdb : (y == ("__debug__" : Str)) = false := by decide)
    (hs : starEach (e :: [.Name y np]) X.env = (false, eval e X.env) :: starEach [.Name y np] X.env := by rfl) (hs2 : starEach (.Name y np :: []) X.env = (false, eval (.Name y np) X.env) :: starEach [] X.env := by rfl) (hpl : (backTo pos (starEach [.Name y np] X.env)).any (·.1) = false := by rfl) :
    QE X (.Call (.Name "isinstance" p1) [e, .Name y np] [] pos) (tCB (rIsT X.K) (tCons te (tCons (tC (.ref (He.ga X.K y))) tNil))) (pIsT xs y pe) :=
  ⟨pe_callB call_isT hg hm PyProof.Rows.boot_isinstance (pa_cons h.pe (pa_cons (pe_glob hgy (ex.g y hy) rfl hdb) pa_nil hs2) hs) (by decide) (by decide) hs hpl, sim_isT ex.f hy h.sim⟩
theorem qisV {np : Pos} (ex : ExG X.K X.mg xs fs) (hm : X.mg "isinstance" = none) (hv : X.mg "ValueError" = none) (h : QE X e te pe) (hg : Gl X "isinstance" := by rfl) (hgy : Gl X "ValueError" := by rfl)
    (hs : starEach (e :: [.Name "ValueError" np]) X.env = (false, eval e X.env) :: starEach [.Name "ValueError" np] X.env := by rfl) (hs2 : starEach (.Name "ValueError" np :: []) X.env = (false, eval (.Name "ValueError" np) X.env) :: starEach [] X.env := by rfl) (hpl : (backTo pos (starEach [.Name "ValueError" np] X.env)).any (·.1) = false := by rfl) :
    QE X (.Call (.Name "isinstance" p1) [e, .Name "ValueError" np] [] pos) (tCB (rIsT X.K) (tCons te (tCons (tC (.ty "ValueError")) tNil))) (pIsV xs pe) :=
  ⟨pe_callB call_isT hg hm PyProof.Rows.boot_isinstance (pa_cons h.pe (pa_cons (pe_bltn hgy hv PyProof.Rows.Boot.«ValueError» rfl) pa_nil hs2) hs) (by decide) (by decide) hs hpl, sim_isV ex.f h.sim⟩
end
/-! ### evaluation -/
section
variable {ρ : Sto} {P : Val → Sto → Prop} {E : PEn} {T : XT} {pe : PX} {ps : PAs} {f : Bool}
def kRaise (C n : Str) (T : XT) (ρ : Sto) : Option D → Prop
  | some d => imm d = true ∧ T ⟨C, [n], [d]⟩ ρ
  | none => False
@[simp ↓] theorem y_raise {C n : Str} : sRaise C n pe T E ρ = pe ρ fun x ρ1 => kRaise C n T ρ1 (res ρ1 x) := by
  unfold sRaise
  congr
@[simp ↓] theorem y_kRaise {C n : Str} {d : D} : kRaise C n T ρ (some d) = (imm d = true ∧ T ⟨C, [n], [d]⟩ ρ) := rfl
@[simp ↓] theorem y_raise0 {C : Str} : sRaise0 C T E ρ = T ⟨C, [], []⟩ ρ := rfl
def kCallX (n : Nat) (S : SpecX) (T : XT) (E : PEn) (ρ : Sto) : Option (List D) → Prop
  | some ds => ds.length = n ∧ S ds (fun _ _ => E.nx ρ) fun x => T x ρ
  | none => False
@[simp ↓] theorem y_callX {n : Nat} {S : SpecX} : sCallX n S ps T E ρ = ps ρ fun xs ρ1 => kCallX n S T E ρ1 (resAll ρ1 xs) := by
  unfold sCallX
  congr
@[simp ↓] theorem y_kCallX {n : Nat} {S : SpecX} {ds : List D} : kCallX n S T E ρ (some ds) = (ds.length = n ∧ S ds (fun _ _ => E.nx ρ) fun x => T x ρ) := rfl
@[simp] theorem y_nX {S : SpecX} {ds : List D} {R : Val → List D → Prop} : nX S ds R = S ds R fun _ => False := rfl
@[simp ↓] theorem y_try {xs : List Str} {y : Str} {i : Nat} {pb : XT → PS'} {ps : PS'} : sTry xs y i pb ps E ρ = pb (fun x ρ' => decide (x.C ∈ xs) = true ∧ excSub x.C y = true ∧ i < ρ'.length ∧ ps { nx := fun ρ'' => E.nx (ρ''.set i none), rt := E.rt, bk := fun ρ'' => E.bk (ρ''.set i none), ct := fun ρ'' => E.ct (ρ''.set i none) } (ρ'.set i (some (.sh true (.exn x.C x.ks x.ds))))) E ρ := rfl
def kXf (xs : List Str) (n : Str) (ρ : Sto) (P : Val → Sto → Prop) : Option D → Prop
  | some (.exn C [f] [d]) => decide (C ∈ xs) = true ∧ f = n ∧ imm d = true ∧ P (.v true d) ρ
  | _ => False
@[simp ↓] theorem y_xf {xs : List Str} {n : Str} : pXf xs n pe ρ P = pe ρ fun x ρ1 => kXf xs n ρ1 P (res ρ1 x) := by
  unfold pXf
  congr
@[simp] theorem y_kXf {xs : List Str} {n g C : Str} {d : D} : kXf xs n ρ P (some (.exn C [g] [d])) = (decide (C ∈ xs) = true ∧ g = n ∧ imm d = true ∧ P (.v true d) ρ) := rfl
def kIsT (xs : List Str) (y : Str) (ρ : Sto) (P : Val → Sto → Prop) : Option D → Prop
  | some (.exn C _ _) => decide (C ∈ xs) = true ∧ P (.v true (.bl (excSub C y))) ρ
  | _ => False
@[simp ↓] theorem y_isT {xs : List Str} {y : Str} : pIsT xs y pe ρ P = pe ρ fun x ρ1 => kIsT xs y ρ1 P (res ρ1 x) := by
  unfold pIsT
  congr
@[simp] theorem y_kIsT {xs : List Str} {y C : Str} {ks : List Str} {ds : List D} : kIsT xs y ρ P (some (.exn C ks ds)) = (decide (C ∈ xs) = true ∧ P (.v true (.bl (excSub C y))) ρ) := rfl
def kIsV (xs : List Str) (ρ : Sto) (P : Val → Sto → Prop) : Option D → Prop
  | some (.exn C _ _) => decide (C ∈ xs) = true ∧ P (.v true (.bl true)) ρ
  | _ => False
@[simp ↓] theorem y_isV {xs : List Str} : pIsV xs pe ρ P = pe ρ fun x ρ1 => kIsV xs ρ1 P (res ρ1 x) := by
  unfold pIsV
  congr
@[simp] theorem y_kIsV {xs : List Str} {C : Str} {ks : List Str} {ds : List D} : kIsV xs ρ P (some (.exn C ks ds)) = (decide (C ∈ xs) = true ∧ P (.v true (.bl true)) ρ) := rfl
end
end Qq

namespace Qq
open PySem PySem.Spec PyProof.Rows L2
/-! ### x.insert(j, e), e a number or a text -/
def rIns : V → List V → Hp → VK → Prop := fun x vs H Q => ∃ (l : Addr) (xs : List V) (i : Int) (y : V), x = .ref l ∧ vs = [.int i, y] ∧ H l = some (.lst xs) ∧ xs.length < sizeLine ∧ 0 ≤ i ∧ i < 2 ^ 63 ∧ Q .non (upd H l (.lst (xs.take i.toNat ++ [y] ++ xs.drop i.toNat)))
def kIns (i : Nat) (z : Option D) (p2 : PX) (ρ1 : Sto) (P : Val → Sto → Prop) : Prop := match z with
  | some (.int z) => p2 ρ1 fun w ρ2 => match ρ2[i]?, res ρ2 w with
    | some (some (.ow k fr ds)), some d => imm d = true ∧ ds.length < sizeLine ∧ (0 ≤ z ∧ z ≤ 1000000000) ∧ P (.v true .non) (ρ2.set i (some (.ow k fr (ds.take z.toNat ++ d :: ds.drop z.toNat))))
    | _, _ => False
  | _ => False
def pInsert (i : Nat) (p1 p2 : PX) : PX := fun ρ P => match ρ[i]? with
  | some (some (.ow _ _ _)) => p1 ρ fun y ρ1 => kIns i (res ρ1 y) p2 ρ1 P
  | _ => False
section
variable {K : PySem.W.Frag}
theorem sim_insert {i : Nat} {t1 t2 : TE} {p1 p2 : PX} (h1 : Sim K t1 p1) (h2 : Sim K t2 p2) : Sim K (tBM K "list" rIns (tVar i) (tCons t1 (tCons t2 tNil))) (pInsert i p1 p2) := fun M Z H0 F ns H σ ρ P Q S hp kk => by
  unfold pInsert at hp
  split at hp
  · rename_i _ _ _ e0
    obtain ⟨a, vs0, tl0, e1, h0⟩ := S.head e0
    refine ⟨_, e1, tyV_list h0.obj, h1 M Z H0 F ns H σ ρ _ _ S hp fun y v H1 ns1 ρ1 S1 x1 d1 vy q => ?_⟩
    unfold kIns at q
    split at q
    · rename_i z hz
      have ev := vy.intV S1 hz
      subst ev
      refine h2 M Z H0 F ns1 H1 σ ρ1 _ _ S1 q fun w u H2 ns2 ρ2 S2 x2 d2 vw q => ?_
      split at q
      · rename_i k fr ds d e hd
        obtain ⟨hi, hl, hz', q⟩ := q
        obtain ⟨ms, r⟩ := vw.rep S2 hd
        have r0 : Rep K H2 u d [] := by
          have z := r.imm hi
          rw [z] at r; exact r
        obtain ⟨a', vs, tl, e1', hh⟩ := S2.head e
        rw [e1] at e1'; cases e1'
        obtain ⟨m1, q1, s1⟩ := hh.rep.take z.toNat
        obtain ⟨m2, q2, s2⟩ := hh.rep.drop z.toNat
        have r3 := (q1.append (RepL.one r0)).append q2
        have sub : ∀ b ∈ m1 ++ [] ++ m2, b ∈ tl := fun b hb => by
          rw [List.append_nil] at hb
          exact (List.mem_append.mp hb).elim (s1 b) (s2 b)
        have ed : ds.take z.toNat ++ [d] ++ ds.drop z.toNat = ds.take z.toNat ++ d :: ds.drop z.toNat := by simp
        rw [ed] at r3
        obtain ⟨ns', S3, oE⟩ := S2.write e e1 hh r3 (fun q => hh.out (sub a q)) (fun z b hb => hh.fre z b ((List.mem_cons.mp hb).elim (fun q => by rw [q]; exact List.mem_cons_self) fun q => List.mem_cons_of_mem _ (sub b q))) (fun j b ob hb => hh.items.own j b ob (sub b hb)) fun b hb => hh.items.hid b (sub b hb)
        refine ⟨a, vs, z, u, rfl, rfl, hh.obj, by rw [hh.rep.length]; exact hl, hz'.1, by omega, ?_⟩
        exact kk _ _ _ ns' _ S3 ((x1.trans x2).trans (ext_write hh.obj hh.nF)) ((d1.trans d2).trans (dom_set e)) .non q
      · exact q.elim
    · exact q.elim
  · exact hp.elim
end
section
variable {X : Cx} {e e2 : Expr} {te t2 : TE} {pe q2 : PX} {p1 p2 pos : Pos}
theorem qinsert (i : Nat) {x : Str} (h : QE X e te pe) (h2 : QE X e2 t2 q2) (hN : X.N[i]? = some x := by rfl) (hv : Vis X.env.scope x := by first | exact Or.inl rfl | exact Or.inr (Or.inl rfl) | exact Or.inr (Or.inr rfl)) (hd : (x == ("__debug__" : Str)) = false := by decide)
    (hcd : (x == ("__classdict__" : Str)) = false := by decide) (hbase : attributeBase (.Name x p1) "insert" X.env (eval (.Name x p1) X.env) = eval (.Name x p1) X.env := by rfl)
    (hfew : ((backTo pos (starEach (e :: [e2]) X.env)).all (fun x => !x.1) && (backToKw pos (keywordEach [] X.env)).all (fun x => x.1.isSome)
      && decide ((e :: [e2]).length + ([] : List Keyword).length + (if ([] : List Keyword).isEmpty then 0 else 1) < 30)) = true := by rfl)
    (hline : (p2.endLine == pos.line) = true := by rfl) (hs : starEach (e :: [e2]) X.env = (false, eval e X.env) :: starEach [e2] X.env := by rfl) (hs2 : starEach (e2 :: []) X.env = (false, eval e2 X.env) :: starEach [] X.env := by rfl) (hplain : (backTo pos (starEach [e2] X.env)).any (·.1) = false := by rfl) :
    QE X (.Call (.Attribute (.Name x p1) "insert" p2) [e, e2] [] pos) (tBM X.K "list" rIns (tVar i) (tCons te (tCons t2 tNil))) (pInsert i pe q2) :=
  ⟨pe_bm PySem.F.plainAttrs_list PySem.F.slot_list_insert PySem.F.type_list_insert mt_insert (pe_var hN hv hd hcd) (pa_cons h.pe (pa_cons h2.pe pa_nil hs2) hs) hbase hfew hline hs hplain, sim_insert h.sim h2.sim⟩
end
/-! evaluation -/
section
variable {ρ : Sto} {P : Val → Sto → Prop} {pe q2 : PX} {fr : Bool}
def kIns2 (i : Nat) (z : Int) (ρ2 : Sto) (P : Val → Sto → Prop) (c : Option (Option Cel)) : Option D → Prop
  | some d => match c with
    | some (some (.ow k fr ds)) => imm d = true ∧ ds.length < sizeLine ∧ (0 ≤ z ∧ z ≤ 1000000000) ∧ P (.v true .non) (ρ2.set i (some (.ow k fr (ds.take z.toNat ++ d :: ds.drop z.toNat))))
    | _ => False
  | none => False
@[simp] theorem y_ins {i : Nat} {k : Option Nat} {ds : List D} (h : ρ[i]? = some (some (.ow k fr ds))) : pInsert i pe q2 ρ P = pe ρ fun y ρ1 => kIns i (res ρ1 y) q2 ρ1 P := by unfold pInsert; rw [h]
@[simp ↓] theorem y_kIns {i : Nat} {z : Int} : kIns i (some (.int z)) q2 ρ P = q2 ρ fun w ρ2 => kIns2 i z ρ2 P ρ2[i]? (res ρ2 w) := by
  unfold kIns kIns2
  simp only
  congr
  funext w ρ2
  cases res ρ2 w <;> cases ρ2[i]? with
    | none => rfl
    | some c => cases c with
      | none => rfl
      | some c => cases c <;> rfl
@[simp] theorem y_kIns2 {i : Nat} {z : Int} {k : Option Nat} {ds : List D} {d : D} : kIns2 i z ρ P (some (some (.ow k fr ds))) (some d) = (imm d = true ∧ ds.length < sizeLine ∧ (0 ≤ z ∧ z ≤ 1000000000) ∧ P (.v true .non) (ρ.set i (some (.ow k fr (ds.take z.toNat ++ d :: ds.drop z.toNat))))) := rfl
end
end Qq

namespace Qq
open PySem PySem.Spec PyProof.Rows L2
/-! ### isinstance(e, (A, B, ..)), e a tracked exception, the classes own ones -/
def rIsTs (K : PySem.W.Frag) : List V → Hp → VK → Prop := fun xs H Q => ∃ (a C tp : Addr) (d : Option Addr) (cs : List V) (cv : List Value) (b : Bool), xs = [.ref a, .ref tp] ∧ H a = some (ExX (.ref C) d a) ∧ (∀ dd, d = some dd → ∃ fs, H dd = some (.xd fs)) ∧ ExcC K C ∧ H tp = some (.tup cs) ∧ (∀ us, Vals cs us → us = cv) ∧ PySem.W.kitAny K (.ref C) cv = some b ∧ Q (.bl b) H
theorem call_isTs {X : Cx} : CallR X (.builtin "isinstance") (rIsTs X.K) := by
  intro pins s σ H xs us Q I r h
  obtain ⟨a, C, tp, d, cs, cv, b, rfl, ha, hd, T, hT, hcv, e, q⟩ := h
  obtain ⟨u1, u2, rfl, r1, r2⟩ := vals2 r
  cases (show u1 = Value.ref a from r1)
  cases (show u2 = Value.ref tp from r2)
  obtain ⟨⟨oe, vs, hget, hz, hv⟩, _⟩ := I.hok a _ ha
  have J : ∃ od, PySem.W.InstAt s.heap a oe C od := by
    obtain ⟨oc, oD, oda, osl⟩ := oe
    obtain ⟨h1, h2⟩ := hz
    dsimp only at h1 h2 hv
    subst h1 h2 hv
    cases oD with
    | none => exact ⟨none, hget, rfl, rfl, trivial⟩
    | some dd =>
      obtain ⟨fs, hfs⟩ := hd dd rfl
      obtain ⟨mA, hns, hr⟩ := (show ObjOk X.prog X.w H s.heap dd (.xd fs) from I.hok dd _ hfs)
      obtain ⟨od, ho', hl⟩ := lookIn_ns hns
      exact ⟨some od, hget, rfl, rfl, ho'⟩
  obtain ⟨od, J⟩ := J
  have hcl : (PySem.W.clsIn X.K C).isSome = true := by
    obtain ⟨cd, hc, _⟩ := PySem.W.any_some T.hd
    rw [hc]; rfl
  obtain ⟨_, its, rv, o, g1, g2, n, g3⟩ := (show ObjOk X.prog X.w H s.heap tp (.tup cs) from I.hok tp _ hT)
  have e3 := hcv its rv
  subst e3
  obtain ⟨oc, od2, dt, sl⟩ := o
  simp only at g2 g3
  subst g2 g3
  exact PySem.W.kia_tup (PySem.W.kitx_exc hcl T.hg T.hk T.hs T.ha T.hn T.ht T.hm) I.kIn J g1 e (fun z => nomatch z) fun tk => ⟨.bl b, H, I.kept (t' := tk) fun _ _ z => z, rfl, q⟩
/-- the tuple of classes, as written -/
def tRefs (K : PySem.W.Frag) : List Str → TA
  | [] => tNil
  | y :: ys => tCons (tC (.ref (He.ga K y))) (tRefs K ys)
theorem tRefs_eq {K : PySem.W.Frag} : ∀ (ys : List Str) (σ : L2.St) (H : Hp) (R : List V → Hp → Prop), R (ys.map fun y => V.ref (He.ga K y)) H → tRefs K ys σ H R
  | [], _, _, _, h => h
  | y :: ys, σ, H, R, h => tRefs_eq ys σ H (fun vs H2 => R (V.ref (He.ga K y) :: vs) H2) h
def pIsTs (xs ys : List Str) (p : PX) : PX := fun ρ P => p ρ fun x ρ1 => match res ρ1 x with
  | some (.exn C _ _) => decide (C ∈ xs) = true ∧ P (.v true (.bl (ys.any (excSub C)))) ρ1
  | _ => False
section
variable {K : PySem.W.Frag} {xs fs ys : List Str}
theorem kitAny_exc (ex : ExF K xs fs) {C : Str} (hC : C ∈ xs) : ∀ {ys : List Str}, (∀ y ∈ ys, y ∈ xs) → PySem.W.kitAny K (.ref (He.ga K C)) (ys.map fun y => Value.ref (He.ga K y)) = some (ys.any (excSub C))
  | [], _ => kitAny_nil
  | y :: ys, h => kitAny_cons (ex.kit _ hC _ (h y List.mem_cons_self)) (fun z => by
      rw [List.any_cons, z, Bool.false_or]
      exact kitAny_exc ex hC fun w hw => h w (List.mem_cons_of_mem _ hw)) fun z => by rw [List.any_cons, z, Bool.true_or]
theorem vals_refs : ∀ {l : List Addr} {us : List Value}, Vals (l.map V.ref) us → us = l.map Value.ref
  | [], _, .nil => rfl
  | a :: l, _, .cons r t => by
    rw [vals_refs t]
    cases (show _ = Value.ref a from r)
    rfl
theorem sim_isTs {t : TE} {p : PX} (ex : ExF K xs fs) (hy : ∀ y ∈ ys, y ∈ xs) (hl : ys.length ≤ sizeLine) (h : Sim K t p) : Sim K (tCB (rIsTs K) (tCons t (tCons (tTup (tRefs K ys)) tNil))) (pIsTs xs ys p) := fun M Z H0 F ns H σ ρ P Q S hp k =>
  h M Z H0 F ns H σ ρ _ _ S hp fun x v H1 ns1 ρ1 S1 e1 d1 vx q => by
    split at q
    · rename_i C ks ds hx
      obtain ⟨hm, q⟩ := q
      have hm' : C ∈ xs := of_decide_eq_true hm
      obtain ⟨ms, r⟩ := vx.rep S1 hx
      refine tRefs_eq ys _ _ _ ⟨by rw [List.length_map]; exact hl, fun tp htp => ?_⟩
      have r' := r.frame (Ext.same (F := fun _ => True) (same_upd (o := .tup (ys.map fun y => V.ref (He.ga K y))) htp)) fun _ _ => trivial
      obtain ⟨a, d, rfl, h1, h2⟩ := rep_exn r'
      refine ⟨a, _, tp, d, _, _, _, rfl, h1, h2, ex.isC _ hm', upd_same, fun us hu => ?_, kitAny_exc ex hm' hy, k _ _ _ ns1 ρ1 (S1.grow (same_upd htp)) (e1.trans (.same (same_upd htp))) d1 (.bl _) q⟩
      have hu' : Vals ((ys.map (He.ga K)).map V.ref) us := by rw [List.map_map]; exact hu
      rw [vals_refs hu', List.map_map]
      rfl
    · exact q.elim
end
section
variable {X : Cx} {xs fs ys : List Str} {e : Expr} {es : List Expr} {te : TE} {pe : PX} {p1 p2 np : Pos} {y : Str}
theorem qrefs0 : PA X [] (tRefs X.K []) := pa_nil
theorem qrefs1 (ex : ExG X.K X.mg xs fs) (hy : y ∈ xs) (h : PA X es (tRefs X.K ys)) (hgy : Gl X y := by rfl) (hdb : (y == ("__debug__" : Str)) = false := by decide)
    (hs : starEach (.Name y np :: es) X.env = (false, eval (.Name y np) X.env) :: starEach es X.env := by rfl) : PA X (.Name y np :: es) (tRefs X.K (y :: ys)) := pa_cons (pe_glob hgy (ex.g y hy) rfl hdb) h hs
theorem qisTs {n : Expr} (ex : ExG X.K X.mg xs fs) (hy : ∀ y ∈ ys, y ∈ xs) (hl : ys.length ≤ sizeLine) (hm : X.mg "isinstance" = none) (h : QE X e te pe) (ht : PE X n (tTup (tRefs X.K ys))) (hg : Gl X "isinstance" := by rfl)
    (hs : starEach (e :: [n]) X.env = (false, eval e X.env) :: starEach [n] X.env := by rfl) (hs2 : starEach (n :: []) X.env = (false, eval n X.env) :: starEach [] X.env := by rfl) (hpl : (backTo p1 (starEach [n] X.env)).any (·.1) = false := by rfl) :
    QE X (.Call (.Name "isinstance" p2) [e, n] [] p1) (tCB (rIsTs X.K) (tCons te (tCons (tTup (tRefs X.K ys)) tNil))) (pIsTs xs ys pe) :=
  ⟨pe_callB call_isTs hg hm PyProof.Rows.boot_isinstance (pa_cons h.pe (pa_cons ht pa_nil hs2) hs) (by decide) (by decide) hs hpl, sim_isTs ex.f hy hl h.sim⟩
end
/-! ### x.count(e), truths -/
def cntB (b : Bool) (v : Value) : Bool := match v with
  | .bool c => c == b
  | _ => false
def rCntB (K : PySem.W.Frag) : V → List V → Hp → VK → Prop := fun x xs H Q => ∃ (p : Addr) (bs : List Bool) (b : Bool), x = .ref p ∧ xs = [.bl b] ∧ SqL K H p (bs.map V.bl) ∧ Q (.int (bs.count b : Nat)) H
/-! ### defs called where an exception is handled: they walk nothing and raise nothing -/
/-- such a def's promise -/
structure FnN (P : Program) (w : World) (K : PySem.W.Frag) (mg : Str → Option Value) (base : Heap) (CX : CXT) (k : Nat) (f : Addr) (fd : FuncData) (ps : List Str) (sp : Sp) : Prop where
  len : ∀ vs H Q E, sp vs H Q E → vs.length = ps.length
  run : ∀ (A : Around) (outer : List Env) (s : Shared) (H : Hp) (as : Args) (us : List Value) (vs : List V) (Q : VK) (E : XK), L2H.RoomH k A → Env0 P w K mg base A outer s H → BindsTo s fd as (ps.zip us) → Vals vs us → sp vs H Q E →
    codeAny (model P w) A (.call (.ref f) as) (CR CX outer P w H s Q E) s
def cxN (CX : CXT) (P : Program) (w : World) (K : PySem.W.Frag) (mg : Str → Option Value) (base : Heap) (N : List Str) (qual : Str) (scope : Scope) (f : Addr) (cdv : Value) (A : Around) (outer : List Env) (s : Shared) (H : Hp) (E : XK) : Cx :=
  { cxOf CX P w K mg base N qual scope f cdv A outer s H E with calm := false }
/-- nothing is handled -/
def cold (A : Around) : Around := { A with handled := none }
theorem env0_cold {P : Program} {w : World} {K : PySem.W.Frag} {mg : Str → Option Value} {base : Heap} {A : Around} {outer : List Env} {s : Shared} {H : Hp} (e : Env0 P w K mg base A outer s H) : Env0 P w K mg base (cold A) outer s H :=
  ⟨by first | exact e.frames | (have := e.frames; simpa [Qq.cold, Around.frames] using this), e.mod, e.bs, e.bsz, e.funs, e.frf, e.hok, e.bare⟩
theorem roomH_marked {k : Nat} {A : Around} (r : L2H.RoomH k A) (h : Option Value) : L2H.RoomH k (A.mark h) := ⟨r.dp, r.un⟩
section
variable {CX : CXT} {P : Program} {w : World} {K : PySem.W.Frag} {mg : Str → Option Value} {base : Heap}
theorem startN {N ps : List Str} {qual : Str} {scope : Scope} {f : Addr} {cdv : Value} {A : Around} {outer : List Env} {s s1 : Shared} {H : Hp} {E : XK} {us : List Value} {vs : List V}
    (sc : FnScope N ps scope) (e0 : Env0 P w K mg base A outer s H) (hl : vs.length = ps.length) (r : Vals vs us)
    (x : InCallC s s.heap.objs.size (bindL (envOfC qual scope s.heap.objs.size f cdv).kindOf (ps.zip us) fun _ => none) (cellsFrom (s.heap.objs.size + 1) scope.names []) (bindC (envOfC qual scope s.heap.objs.size f cdv).kindOf (ps.zip us) fun _ => none) s1) :
    Inv (cxN CX P w K mg base N qual scope f cdv A outer s H E) [] (L2.start N vs) H s1 := by
  have I := inv_start (CX := CX) (A := cold A) (E := E) sc rfl (env0_cold e0) hl r x
  have o := I.ok
  exact ⟨⟨o.mod, o.kind, o.glob, o.blt, o.above, o.inj, o.has, o.cab, fun z => absurd (show false = true from z) Bool.false_ne_true, Around.frames_deeper e0.frames, o.stk, o.exf, o.bs, o.bsz, o.noex, o.exfs, o.funs, o.frf⟩,
    I.os, I.bare, I.base, I.loc, I.cell, I.free, I.freeC, I.pin, I.hok, I.len⟩
theorem okN0 {x qual : Str} {params : Arguments} {bd : List Stmt} {scope : Scope} {dvs : List V} {kws : List (Str × V)} {f : Addr} {fd : FuncData} {N ps : List Str} {k : Nat} {sp : Sp} (F : FunD K x qual params bd scope dvs kws f fd) (sc : FnScope N ps scope)
    (hl : ∀ vs H Q E, sp vs H Q E → vs.length = ps.length)
    (walk : ∀ (cdv : Value) (A : Around) (outer : List Env) (s : Shared) (H : Hp) (vs : List V) (Q : VK) (E : XK), L2H.RoomH k (A.deeper (envOfC qual scope s.heap.objs.size f cdv)) → sp vs H Q E →
      ∃ t, PSs (cxN CX P w K mg base N qual scope f cdv A outer s H E) bd t ∧ t { nx := fun _ H' => Q .non H', rt := Q } (L2.start N vs) H) : FnN P w K mg base CX (k + 1) f fd ps sp := by
  obtain ⟨oc, od, dV, kV, doc, pm, an, cdv, ct, osl, rfl, lk, hcd, _, _⟩ := F.ex
  refine ⟨hl, fun A outer s H as us vs Q E hr e0 bnd r hsp => ?_⟩
  have kin : K.In s.heap := e0.mod.kin.keeps fun a o z => (e0.bs a o z).1
  have nol : s.heap.NoLimit := e0.mod.nolimit.keeps fun a o z => (e0.bs a o z).1
  refine codeAny_call_function hr.depth (kin _ _ lk) rfl sc.co sc.gen rfl (PySem.W.codeRec_of kin hcd) (bnd _ _ _ _ (wpAny_newFunctionEnv_cells sc.kind (fun ⟨n, v⟩ hy => (sc.par n (List.of_mem_zip hy).1).imp id fun q => ⟨q, PySem.W.cellsFrom_some _ _ _ (.inl q)⟩) fun env he s1 y => ?_))
  subst he
  refine ⟨nol.keeps y.toInCall.keep, codeAny_func ?_⟩
  obtain ⟨t, ht, q⟩ := walk cdv A outer s H vs Q E (hr.deeper _) hsp
  have I := startN (CX := CX) (E := E) sc e0 (hl _ _ _ _ hsp) r y
  refine wpAny_mono (ht.run [] s1 (L2.start N vs) H _ I q) (fun fl s2 z => ?_) fun _ _ z => z
  match fl, z with
  | .ret u, ⟨v, σ2, H2, J, rv, q2⟩ => exact ⟨v, H2, J.os, J.bare, J.base, J.hok, rv, q2⟩
  | .next, ⟨σ2, H2, J, q2⟩ => exact ⟨.non, H2, J.os, J.bare, J.base, J.hok, rfl, q2⟩
  | .brk, ⟨_, _, _, q2⟩ => exact q2.elim
  | .cont, ⟨_, _, _, q2⟩ => exact q2.elim
/-- THE RULE for such a def -/
theorem okN {x qual : Str} {params : Arguments} {bd : List Stmt} {scope : Scope} {dvs : List V} {kws : List (Str × V)} {f : Addr} {fd : FuncData} {N ps : List Str} {k : Nat} {S : Spec'} {body : PS'}
    (F : FunD K x qual params bd scope dvs kws f fd) (sc : FnScope N ps scope)
    (der : ∀ (cdv : Value) (A : Around) (outer : List Env) (s : Shared) (H : Hp) (E : XK), L2H.RoomH k (A.deeper (envOfC qual scope s.heap.objs.size f cdv)) → ∃ t, PSs (cxN CX0 P w K mg base N qual scope f cdv A outer s H E) bd t ∧ SimS K t body)
    (pur : ∀ ds Q, ds.length = ps.length → S ds Q → body (ends none Q) (entry none (N.length - ps.length) ds)) : FnN P w K mg base CX0 (k + 1) f fd ps (spQ K ps.length none S) := by
  refine okN0 F sc (fun vs H Q E h => h.1) (fun cdv A outer s H vs Q E hr h => ?_)
  obtain ⟨hl, ds, nss, P', A', hS, hk⟩ := h
  obtain ⟨t, h1, h2⟩ := der cdv A outer s H E hr
  refine ⟨t, h1, ?_⟩
  have hN : vs.length ≤ N.length := by
    have := congrArg List.length sc.pre
    rw [List.length_take] at this
    omega
  have S0 := entry_sr (mu := none) A' hN
  have p0 := pur ds P' (A'.len.symm.trans hl) hS
  rw [← hl] at p0
  have cont : ∀ x v σ' H' ns' ρ', SR K (muAt none vs) (fun _ => False) H (fun _ => False) ns' H' σ' ρ' → VOk K (fun _ => False) H (fun _ => False) ns' H' σ' ρ' v x → fin none P' x ρ' → Q v H' := fun x v σ' H' ns' ρ' S' vx q => by
    unfold fin at q
    split at q
    · rename_i y cs hy hc
      exact hk v y cs H' (exitV_ok S' vx hy) (fun b o hb _ => S'.ent b o hb fun z => nomatch z) (fun m a hm => nomatch hm) q
    · exact q.elim
  exact h2 _ _ H _ _ H _ _ (ends none P') _ S0 p0 (fun σ' H' ns' ρ' S' _ q => cont _ _ σ' H' ns' ρ' S' .non q) (fun x v σ' H' ns' ρ' S' _ vx q => cont x v σ' H' ns' ρ' S' vx q) (fun _ _ _ _ _ _ q => q.elim) (fun _ _ _ _ _ _ q => q.elim)
end
def GotN (P : Program) (w : World) (K : PySem.W.Frag) (mg : Str → Option Value) (base : Heap) (k : Nat) (x : Str) (ps : List Str) (n : Nat) (S : Spec') : Prop :=
  ∃ (f : Addr) (fd : FuncData), FnN P w K mg base CX0 k f fd ps (spQ K n none S) ∧ mg x = some (.ref f) ∧ PySem.W.keepIn K (.ref f) = true ∧ Binds K fd ps []
section
variable {X : Cx} {e : Expr} {es : List Expr} {tr : TA} {pr : PAs} {p1 pos : Pos}
theorem qcallN {x : Str} {k n : Nat} {ps : List Str} {S : Spec'} (G : GotN X.prog X.w X.K X.mg X.base k x ps n S) (hr : L2H.RoomH k X.A) (ha : QA X (e :: es) tr pr)
    (hg : Gl X x := by rfl) (hdb : (x == ("__debug__" : Str)) = false := by decide) (he : starEach (e :: es) X.env = (false, eval e X.env) :: starEach es X.env := by rfl) (hpl : (backTo pos (starEach es X.env)).any (·.1) = false := by rfl) : QE X (.Call (.Name x p1) (e :: es) [] pos) (tCall (spQ X.K n none S) [] E0 tr) (pCall n none S pr) := by
  obtain ⟨f, fd, F, hm, hk, hb⟩ := G
  refine ⟨⟨fun pins s σ H Q I h => ?_⟩, sim_call ha.sim⟩
  refine wpAny_Call_Name_kw (ld_glob I hg hm ?_ hdb)
  refine PySem.W.callWith_K (h₀ := X.base) I.ok.mod.kin hk (thn (ha.pa.run pos pins s σ H _ I h) fun us s1 ⟨vs, H1, I1, r, q⟩ => ⟨I1.kIn, ?_⟩) he hpl
  have q' : spQ X.K n none S vs H1 Q E0 := by simpa using q
  have hl : us.length = ps.length := by rw [← r.length]; exact F.len _ _ _ _ q'
  have b := hb s1 us I1.kIn (by rw [List.append_nil]; exact hl)
  rw [List.append_nil] at b
  refine wpAny_call (codeAny_mono (F.run X.A X.stack s1 H1 ⟨us, []⟩ us vs Q E0 hr I1.env0 b r q') fun z s2 hq => ?_)
  match z, hq with
  | .error e, hq => exact absurd hq id
  | .ok (.ret u), hq => exact I1.after hq
  | .ok .next, hq => exact hq.elim
  | .ok .brk, hq => exact hq.elim
  | .ok .cont, hq => exact hq.elim
end
theorem cnt_count {b : Bool} : ∀ {bs : List Bool} {us : List Value}, Vals (bs.map V.bl) us → us.countP (cntB b) = bs.count b
  | [], _, .nil => rfl
  | c :: bs, _, .cons r t => by
    cases (show _ = Value.bool c from r)
    rw [List.countP_cons, List.count_cons, cnt_count t] <;> rfl
/-! evaluation -/
section
variable {ρ : Sto} {P : Val → Sto → Prop} {pe : PX}
def kIsTs (xs ys : List Str) (ρ : Sto) (P : Val → Sto → Prop) : Option D → Prop
  | some (.exn C _ _) => decide (C ∈ xs) = true ∧ P (.v true (.bl (ys.any (excSub C)))) ρ
  | _ => False
@[simp ↓] theorem y_isTs {xs ys : List Str} : pIsTs xs ys pe ρ P = pe ρ fun x ρ1 => kIsTs xs ys ρ1 P (res ρ1 x) := by
  unfold pIsTs
  congr
@[simp] theorem y_kIsTs {xs ys : List Str} {C : Str} {ks : List Str} {ds : List D} : kIsTs xs ys ρ P (some (.exn C ks ds)) = (decide (C ∈ xs) = true ∧ P (.v true (.bl (ys.any (excSub C)))) ρ) := rfl
end
end Qq

namespace Qq
open PySem PySem.Spec PyProof.Rows L2
/-! ### an exception made, as a value -/
section
variable {X : Cx} {e : Expr} {t : L2.St → Hp → XK → Prop}
def tMkV (t : L2.St → Hp → XK → Prop) : TE := fun σ H Q => t σ H fun cls d H' => ∀ a, H' a = none → Q (.ref a) (upd H' a (ExX cls d a))
theorem pe_mkV (hex : X.ex = []) (h : PMk X e t) : PE X e (tMkV t) := by
  refine ⟨fun pins s σ H Q I hh => ?_⟩
  refine wpAny_mono (h pins s σ H _ I hh) (fun u s1 hu => ?_) fun _ _ x => x
  obtain ⟨a, oe, vs, sI, H', cls, d, rfl, J, k, hne, ha, hz, hd, h1, na, os, ag, r, q⟩ := hu
  have J1 : Inv X pins σ H' s1 := J.call' os (ch := []) (Un.kept k) (J.hok.kept k) ag fun b hb => nomatch hb
  have n0 : X.s_0.heap.get? a = none := by
    cases z : X.s_0.heap.get? a with
    | none => rfl
    | some o =>
      obtain ⟨o', z2⟩ := J.base.there a o z (by rw [hex]; exact fun h => nomatch h)
      rw [hne] at z2
      cases z2
  have nL : a ≠ X.env.locals := fun z => by
    obtain ⟨m, hn, _⟩ := J.loc
    obtain ⟨o, _, _, e1, _⟩ := hn
    rw [← z, hne] at e1
    cases e1
  have np : ∀ p ∈ X.pn ++ pins, p.1 ≠ a := fun p hp z => by
    have := (J.pin p hp).1
    rw [z, hne] at this
    cases this
  exact ⟨.ref a, upd H' a (ExX cls d a), invTrack J1 ha hd hz na n0 nL np, rfl, q a na⟩
end
def pMk (C f : Str) (p : PX) : PX := fun ρ P => p ρ fun x ρ1 => match res ρ1 x with
  | some d => imm d = true ∧ P (.v true (.exn C [f] [d])) ρ1
  | none => False
def pMk0 (C : Str) : PX := fun ρ P => P (.v true (.exn C [] [])) ρ
section
variable {K : PySem.W.Frag} {M : List Addr} {Z : Addr → Prop} {H0 H H' : Hp} {F G : Addr → Prop} {ns : Nat → List Addr} {σ : L2.St} {ρ : Sto}
theorem VOk.new0 {v : V} {d : D} {ms : List Addr} {H1 : Hp} (S : SR K M Z H0 F ns H σ ρ) (r : Rep K H1 v d ms) (hm : ∀ b ∈ ms, H b = none) : VOk K Z H0 F ns H1 σ ρ v (.v true d) :=
  .v r (fun _ b hb => S.fresh (hm b hb)) (fun i a ow hb => S.notIn (hm a hb) i ow.mem) fun b hb q => by
    obtain ⟨o, e⟩ := S.zdm _ q
    rw [hm b hb] at e; cases e
theorem sim_mk {C f : Str} {t : TE} {p : PX} (h : Sim K t p) : Sim K (tMkV (tMkO (He.ga K C) (spE K (He.ga K C) f) [] (tCons t tNil))) (pMk C f p) := fun M Z H0 F ns H σ ρ P Q S hp kk => by
  refine h M Z H0 F ns H σ ρ _ _ S hp fun x v H1 ns1 ρ1 S1 e1 d1 vx q => ?_
  split at q
  · rename_i d hx
    obtain ⟨hi, q⟩ := q
    obtain ⟨ms, r⟩ := vx.rep S1 hx
    have r0 : Rep K H1 v d [] := by
      have z := r.imm hi
      rw [z] at r; exact r
    refine ⟨by simp, fun a na => ⟨a, v, rfl, upd_same, fun dx hdx ne => ?_⟩⟩
    have nd : H1 dx = none := by rw [upd_ne ne] at hdx; exact hdx
    have eH : upd (del (upd (upd (upd H1 a (exo a (He.ga K C) none)) dx (exd dx [(f, v)])) a (exo a (He.ga K C) (some dx))) a) dx (.xd [(f, v)]) = upd H1 dx (.xd [(f, v)]) := by
      funext b
      by_cases hb : b = dx
      · rw [hb, upd_same, upd_same]
      · rw [upd_ne hb, upd_ne hb]
        by_cases hba : b = a
        · rw [hba, del_same, na]
        · rw [del_ne hba, upd_ne hba, upd_ne hb, upd_ne hba]
    refine ⟨rfl, dx, [(f, v)], upd_same, by rw [upd_ne ne, upd_same], nd, ?_⟩
    rw [eH]
    intro b hb
    have bd : b ≠ dx := fun z => by rw [z, upd_same] at hb; cases hb
    have nb : H1 b = none := by rwa [upd_ne bd] at hb
    have sm : Same H1 (upd H1 dx (.xd [(f, v)])) := fun b o z => by rw [upd_ne (ne_of_none z nd)]; exact z
    have sm2 : Same (upd H1 dx (.xd [(f, v)])) (upd (upd H1 dx (.xd [(f, v)])) b (ExX (.ref (He.ga K C)) (some dx) b)) := same_upd hb
    have sm3 : Same H1 (upd (upd H1 dx (.xd [(f, v)])) b (ExX (.ref (He.ga K C)) (some dx) b)) := fun c o z => sm2 c o (sm c o z)
    refine kk _ _ _ ns1 ρ1 (S1.grow sm3) (e1.trans (.same sm3)) d1 ?_ q
    have rr : Rep K (upd (upd H1 dx (.xd [(f, v)])) b (ExX (.ref (He.ga K C)) (some dx) b)) (.ref b) (.exn C [f] [d]) [b, dx] :=
      .exn1 upd_same (vs := [v]) (by rw [upd_ne bd.symm, upd_same]; rfl) rfl (RepL.one (r0.frame (Ext.same (F := fun _ => True) sm3) fun _ _ => trivial))
    exact VOk.new0 S1 rr fun c hc => by
      rcases List.mem_cons.mp hc with z | z
      · rw [z]; exact nb
      · rw [List.mem_singleton.mp z]; exact nd
  · exact q.elim
theorem sim_mk0 {C : Str} : Sim K (tMkV (fun _ H Q => Q (.ref (He.ga K C)) none H)) (pMk0 C) := fun M Z H0 F ns H σ ρ P Q S hp kk => by
  intro b hb
  have sm := same_upd (o := ExX (.ref (He.ga K C)) none b) hb
  exact kk _ _ _ ns ρ (S.grow sm) (.same sm) (.refl ρ) (VOk.new0 S (.exn0 upd_same) fun c hc => by rw [List.mem_singleton.mp hc]; exact hb) hp
end
section
variable {X : Cx} {e : Expr} {te : TE} {pe : PX} {pos p1 : Pos} {C f : Str} {k : Nat} {ps : List Str}
theorem qmk (g : GotE X.prog X.w X.K X.mg X.base k C ps f) (hr : Room (k + 1) X.A) (h : QE X e te pe) (hex : X.ex = [] := by rfl) (hg : Gl X C := by rfl) (hdb : (C == ("__debug__" : Str)) = false := by decide) (he : starEach (e :: []) X.env = (false, eval e X.env) :: starEach [] X.env := by rfl) :
    QE X (.Call (.Name C p1) [e] [] pos) (tMkV (tMkO (He.ga X.K C) (spE X.K (He.ga X.K C) f) [] (tCons te tNil))) (pMk C f pe) := by
  obtain ⟨fd, F, oe, hm, b⟩ := g
  exact ⟨pe_mkV hex (pmk_oex oe.c oe.i oe.t F hr b .nil pass0 hg hm (pa_cons h.pe pa_nil he) hdb he), sim_mk h.sim⟩
theorem qmk0 (g : GotE0 X.K X.mg C) (hex : X.ex = [] := by rfl) (hg : Gl X C := by rfl) (hdb : (C == ("__debug__" : Str)) = false := by decide) :
    QE X (.Call (.Name C p1) [] [] pos) (tMkV (fun _ H Q => Q (.ref (He.ga X.K C)) none H)) (pMk0 C) := by
  obtain ⟨h1, h2, h3, h4, hm⟩ := g
  exact ⟨pe_mkV hex (pmk_own0 F.excBase_ValueError h1 hm h2 (raises_own h3 h4) hg hdb), sim_mk0⟩
end
section
variable {ρ : Sto} {P : Val → Sto → Prop} {p : PX}
def kMkD (C f : Str) (d : Option D) (ρ : Sto) (P : Val → Sto → Prop) : Prop := match d with
  | some d => imm d = true ∧ P (.v true (.exn C [f] [d])) ρ
  | none => False
@[simp ↓] theorem y_mk {C f : Str} : pMk C f p ρ P = p ρ fun x ρ1 => kMkD C f (res ρ1 x) ρ1 P := rfl
@[simp ↓] theorem y_mk0 {C : Str} : pMk0 C ρ P = P (.v true (.exn C [] [])) ρ := rfl
@[simp ↓] theorem y_kMkD {C f : Str} {d : D} : kMkD C f (some d) ρ P = (imm d = true ∧ P (.v true (.exn C [f] [d])) ρ) := rfl
end
end Qq

namespace Qq
open PySem PySem.Spec PyProof.Rows L2
/-! ### the hook: the facts, a further Bool; the interpreter's own statics are seen -/
def asY (g : Addr → Option Obj) (n : Nat) : List Addr := He.asD g n ++ [cStatics]
abbrev AlY : Type := He.AlD × Bool
def obsY (n : Nat) (fa : List He.Fa) (fn : List He.DefD) (ex : PySem.W.Frag → Bool) (g : Addr → Option Obj) : AlY := (He.obsD fa fn (He.frG g (asY g n)), ex (He.frG g (asY g n)))
def hookY (n : Nat) (fa : List He.Fa) (fn : List He.DefD) (ex : PySem.W.Frag → Bool) : PySem.W.Hook where
  α := AlY
  obs := fun s => obsY n fa fn ex s.heap.get?
  val := fun _ => (He.valD fn, true)
  says := fun _ h => ∃ K : PySem.W.Frag, K.In h ∧ He.SaysD fa fn K ∧ ex K = true
  of := fun _ _ e => ⟨_, He.frG_in, congrArg Prod.fst e, congrArg Prod.snd e⟩
  keeps := fun _ _ _ ⟨K, hK, c⟩ k => ⟨K, PySem.W.Frag.In.keeps hK k, c⟩
theorem obsY_eq {n : Nat} {fa : List He.Fa} {fn : List He.DefD} {ex : PySem.W.Frag → Bool} {g : Addr → Option Obj} {s : Shared} (h : ∀ a, g a = s.heap.get? a) : obsY n fa fn ex g = (hookY n fa fn ex).obs s := by
  have e : g = s.heap.get? := funext h
  rw [e] <;> rfl
end Qq

namespace Qq
open PySem PySem.Spec PyProof.Rows L2
theorem leI {i : Int} (h : i ≤ 1000000) : i ≤ (sizeLine : Int) := by unfold sizeLine; omega
theorem ltI {i : Int} (h : i < 1000000) : i < (sizeLine : Int) := by unfold sizeLine; omega
/-- the loop over the script's cells -/
theorem for_cells {d : D} {ns : List Int} {m : Int} {g : PG'} {b : PS'} {E : PEn} {cs : Sto} (hd : d = .lsr (ns.map D.int) ∨ d = .lst (ns.map D.int)) (hn : ns.length ≤ 63) (hm0 : 0 ≤ m) (hm : m ≤ 100)
    (h : ∀ n : Nat, (n : Int) ≤ 2 ∨ (n : Int) ≤ m → pLoop g b E (rgs 0 1 n) (some (.sh false d) :: cs)) :
    sFor (pIA kR1 (pOne (pCB (kCP gMax) (pCons (pC (.int 2)) (pOne (pCB (kCP gMin) (pCons (pC (.int m)) (pOne (pCB kLen (pOne (pVar 0))))))))))) g b E (some (.sh false d) :: cs) := by
  rcases hd with rfl | rfl
  · simp [z_for]
    exact ⟨r62 (by split <;> split <;> omega) (by split <;> split <;> omega), h _ (by split <;> split <;> omega)⟩
  · simp [z_for]
    exact ⟨r62 (by split <;> split <;> omega) (by split <;> split <;> omega), h _ (by split <;> split <;> omega)⟩
end Qq

namespace Qq
open PySem PySem.Spec PyProof.Rows L2
/-- small letters -/
abbrev Lw (x : List Nat) : Prop := ∀ c ∈ x, 97 ≤ c ∧ c ≤ 122
theorem Lw.sg {x : List Nat} (h : Lw x) : Sg x := fun c hc => by have := h c hc; omega
theorem lw_nil : Lw [] := fun _ h => nomatch h
theorem lw_one {x : List Nat} {c : Nat} (hs : Lw x) (h : c ∈ x) : Lw [c] := fun d hd => by
  rw [List.mem_singleton] at hd
  subst hd
  exact hs d h
theorem lw_dec {x : List Nat} (h : x.all (fun c => decide (97 ≤ c) && decide (c ≤ 122)) = true) : Lw x := fun c hc => by
  have := List.all_eq_true.mp h c hc
  simpa using this
theorem Lw.app {x y : List Nat} (hx : Lw x) (hy : Lw y) : Lw (x ++ y) := fun c h => (List.mem_append.mp h).elim (hx c) (hy c)
theorem Lw.cut {x : List Nat} (hx : Lw x) (lo hi : Option Int) : Lw (cut x lo hi) := fun c h => hx c (cut_mem h)
theorem Lw.take {x : List Nat} (hx : Lw x) (n : Nat) : Lw (x.take n) := fun c h => hx c (List.mem_of_mem_take h)
theorem Lw.drop {x : List Nat} (hx : Lw x) (n : Nat) : Lw (x.drop n) := fun c h => hx c (List.mem_of_mem_drop h)
theorem Lw.rep {x : List Nat} (hx : Lw x) (n : Nat) : Lw (rpt n x) := fun c h => by
  obtain ⟨l, hl, hc⟩ := List.mem_flatten.mp h
  rw [List.eq_of_mem_replicate hl] at hc
  exact hx c hc
/-- a deck: at least n numbers below 1000 -/
def Dk (n : Nat) (l : List Int) : Prop := n ≤ l.length ∧ ∀ a ∈ l, 0 ≤ a ∧ a < 1000
theorem Dk.mono {n m : Nat} {l : List Int} (h : Dk n l) (hm : m ≤ n) : Dk m l := ⟨Nat.le_trans hm h.1, h.2⟩
abbrev dInts (l : List Int) : List D := l.map D.int
abbrev sg1 (l : List Nat) : List D := l.map fun c => D.str [c]
/-- a list of numbers, read only or not -/
def Row (d : D) (ns : List Int) : Prop := (d = .lsr (ns.map D.int) ∨ d = .lst (ns.map D.int)) ∧ ns.length ≤ 100
theorem _root_.Qq.Scr.row {d : D} {ns : List Int} (h : Scr [d] ns) : Row d ns := by
  obtain ⟨h, hn⟩ := h
  refine ⟨?_, by omega⟩
  rcases h with h | h
  · exact .inl (by simpa using h)
  · exact .inr (by simpa using h)
/-- the letters -/
def Lt (ls : List Nat) : Prop := 2 ≤ ls.length ∧ ls.length ≤ 26 ∧ Lw ls
theorem cmul_lit {i j : Int} (h : 0 ≤ j) (h' : j < 18446744073709551616) : CMulA i j := .inl (.inr (by
  have e : (2 : Nat) ^ 64 = 18446744073709551616 := by decide
  rw [e]; omega))
theorem emod_lt {i j : Int} (h : 0 < j) : 0 ≤ i % j ∧ i % j < j := ⟨Int.emod_nonneg _ (by omega), Int.emod_lt_of_pos _ h⟩
end Qq

namespace Qq
open PySem PySem.Spec PyProof.Rows L2
/-! a row: a list or a tuple -/
def RowD (d : D) (es : List D) : Prop := d = .lst es ∨ d = .tup es
theorem RowD.l {es : List D} : RowD (.lst es) es := .inl rfl
theorem RowD.t {es : List D} : RowD (.tup es) es := .inr rfl
section
variable {ρ : Sto} {P : Val → Sto → Prop} {f : Bool} {d : D} {es : List D}
theorem RowD.ix (h : RowD d es) {i : Int} : kIxD (some d) f (some (.int i)) ρ P = ∃ e, atI es i = some e ∧ P (.v f e) ρ := by rcases h with rfl | rfl <;> rfl
theorem RowD.len (h : RowD d es) : kLenD (some d) ρ P = P (.v true (.int (es.length : Int))) ρ := by rcases h with rfl | rfl <;> rfl
theorem RowD.enum (h : RowD d es) {R : List Val → Sto → Prop} : kEnD (some d) f ρ R = R (enumV f 0 es) ρ := by rcases h with rfl | rfl <;> rfl
theorem RowD.list (h : RowD d es) : kLisD (some d) f ρ P = P (.f f es) ρ := by rcases h with rfl | rfl <;> rfl
theorem RowD.tuple (h : RowD d es) : kTupD (some d) f ρ P = P (.v f (.tup es)) ρ := by rcases h with rfl | rfl <;> rfl
theorem RowD.iter (h : RowD d es) {R : List Val → Sto → Prop} : kIterD (some d) f ρ R = R (es.map (.v f)) ρ := by rcases h with rfl | rfl <;> rfl
theorem RowD.ty (h : RowD d es) : ∃ m, tyName d = some m ∧ (isB m "list" || isB m "tuple") = true := by rcases h with rfl | rfl <;> exact ⟨_, rfl, rfl⟩
theorem cellOf_none {i : Nat} {d : D} : cellOf none i d = .sh false d := by cases d <;> simp [cellOf]
theorem cells_none : ∀ (i : Nat) (ds : List D), cellsFrom' none i ds = ds.map fun d => some (.sh false d)
  | _, [] => rfl
  | i, d :: ds => by rw [cellsFrom', cellOf_none, cells_none (i + 1) ds]; rfl
theorem ent_none (n : Nat) (ds : List D) : entry none n ds = (ds.map fun d => some (.sh false d)) ++ List.replicate n none := by unfold entry; rw [cells_none]
end
theorem domL_same : ∀ r : Sto, domL r r = true
  | [] => rfl
  | some _ :: r => domL_same r
  | none :: r => domL_same r
theorem immsOf {α : Type} {h : α → D} : ∀ {l : List α}, (∀ x ∈ l, imm (h x) = true) → imms (l.map h) = true
  | [], _ => by simp [imms]
  | a :: l, q => by rw [List.map_cons, imms, q a List.mem_cons_self, immsOf fun x hx => q x (List.mem_cons_of_mem _ hx)]; rfl
theorem immsI (l : List Int) : imms (l.map D.int) = true := immsOf fun _ _ => by simp [imm]
theorem immsS (l : List (List Nat)) : imms (l.map D.str) = true := immsOf fun _ _ => by simp [imm]
theorem immsN (l : List Nat) : imms (l.map fun (k : Nat) => D.int k) = true := immsOf fun _ _ => by simp [imm]
theorem immT {l : List D} (h : imms l = true) : imm (.tup l) = true := by simpa [imm] using h
theorem plain_strsW {l : List (List Nat)} (h : ∀ x ∈ l, Sg x) : Plain (.tup (l.map D.str)) ∧ Plain (.lst (l.map D.str)) :=
  ⟨plain_of (lay_tup (n := 0) fun d hd => by obtain ⟨x, hx, rfl⟩ := List.mem_map.mp hd; exact lay_str (h x hx)) (by decide), plain_of (lay_lst (n := 0) fun d hd => by obtain ⟨x, hx, rfl⟩ := List.mem_map.mp hd; exact lay_str (h x hx)) (by decide)⟩
theorem plain_nilL : Plain (.lst []) := plain_of (lay_lst (n := 0) fun d hd => nomatch hd) (by decide)
theorem plain_nilT : Plain (.tup []) := plain_of (lay_tup (n := 0) fun d hd => nomatch hd) (by decide)
theorem deqs_same : ∀ {l : List D}, (∀ d ∈ l, deq d d = true) → deqs l l = true
  | [], _ => rfl
  | d :: l, h => by
    rw [deqs_cons, h d List.mem_cons_self, deqs_same fun e he => h e (List.mem_cons_of_mem _ he)]
    rfl
@[simp] theorem deqs_mapNil {α : Type} {f : α → D} {l : List α} : deqs (l.map f) [] = decide (l = []) := by cases l <;> simp
theorem atI_lastM {α : Type} {xs : List α} (h : xs ≠ []) : ∃ a, atI xs (-1) = some a ∧ a ∈ xs := by
  have hl := List.length_pos_iff.mpr h
  have e : ixN xs.length (-1) = some (xs.length - 1) := by
    unfold ixN
    simp
    omega
  unfold atI
  rw [e]
  have h1 : xs.length - 1 < xs.length := by omega
  exact ⟨xs[xs.length - 1], List.getElem?_eq_getElem h1, List.getElem_mem h1⟩
theorem ixN_natW {n i : Nat} (h : i < n) : ixN n (i : Int) = some i := by
  unfold ixN
  simp [h]
theorem lc_enum {f : Bool} {ds : List D} {g : PG'} {tt : PT'} {te : PX} {vs : List Nat} {K : Bool → List D → Sto → Prop} {ρ : Sto} (I : Nat → Bool → List D → Sto → Prop) (h0 : I 0 true [] ρ)
    (hs : ∀ (i : Nat) (d : D) (fr : Bool) (acc : List D) (ρ : Sto) (R : Bool → List D → Sto → Prop), ds[i]? = some d → (∀ fr' acc' ρ', I (i + 1) fr' acc' ρ' → R fr' acc' ρ') → I i fr acc ρ →
      g (.v f (.tup [.int i, d])) ρ fun ρ1 => tt ρ1 fun b ρ2 => if b = true then te ρ2 fun y ρ3 => kLcP vs fr acc y ρ3 R else R fr acc (wipeS ρ2 vs))
    (he : ∀ fr acc ρ, I ds.length fr acc ρ → K fr acc ρ) : lcLoop g tt te vs K (enumV f 0 ds) true [] ρ := by
  refine lc_ind I h0 (fun i x fr acc ρ R hx hR hI => ?_) (fun fr acc ρ h => he _ _ _ (by rw [enumV_len] at h; exact h))
  have hi : i < ds.length := by
    have := (List.getElem?_eq_some_iff.mp hx).1
    rwa [enumV_len] at this
  have e := enumV_get f 0 ds i _ (List.getElem?_eq_getElem hi)
  rw [hx] at e
  rw [Nat.zero_add] at e
  cases e
  exact hs i _ fr acc ρ R (List.getElem?_eq_getElem hi) hR hI
end Qq

namespace Qq
open PySem PySem.Spec PyProof.Rows L2
/-! the refusals, made -/
def nmL : List Str := ["TooMany", "NoPiece", "NoLap", "NoOrder", "NotHeld", "NoTable", "NoRing", "TooGreat", "NoWords", "NotApart", "NoCounts", "NotCovered", "NoLine", "NoPaper", "NotTold"]
def madeL (a b c d e f g h i : Int) : List D := [.exn "TooMany" ["most"] [.int a], .exn "NoPiece" ["at"] [.int b], .exn "NoLap" ["k"] [.int c], .exn "NoOrder" [] [], .exn "NotHeld" ["at"] [.int d], .exn "NoTable" [] [],
  .exn "NoRing" [] [], .exn "TooGreat" ["most"] [.int e], .exn "NoWords" [] [], .exn "NotApart" ["at"] [.int f], .exn "NoCounts" ["at"] [.int g], .exn "NotCovered" ["at"] [.int h], .exn "NoLine" ["at"] [.int i], .exn "NoPaper" [] [], .exn "NotTold" [] []]
def S_l_number : Spec' := fun ds P => ∃ (ns : List Int) (d : D) (k : Nat), ds = [d, .int k] ∧ Row d ns ∧ k ≤ 8 ∧ ∀ m : Int, P (.v true (.int m)) []
def S_l_made : Spec' := fun ds P => ∃ a b c d e f g h i : Int, ds = [.lst (dInts [a, b, c, d, e, f, g, h, i])] ∧ P (.f true (madeL a b c d e f g h i)) []
def S_l_kinds : Spec' := fun ds P => ∃ (C : Str) (ks : List Str) (fs : List D), ds = [.exn C ks fs] ∧ C ∈ nmL ∧ P (.f true (nmL.map fun y => .bl (excSub C y))) []
def S_l_fields : Spec' := fun ds P => ∃ a b c d e f g h i : Int, ds = [.lst (madeL a b c d e f g h i)] ∧ P (.f true (dInts [a, b, c, d, e, f, g, h, i])) []
def S_l_law : Spec' := fun ds P => ∃ ns, Scr ds ns ∧ P (.v true (.bl true)) []
/-! _law_number(_law_script, _law_k): slots 0 _law_script, 1 _law_k, 2 _law_cell -/
def p_l_number : PS' := (sSeq (sAsg (pOp kMul (pC (.int 7)) (pVar 1)) (gN 2))
  (sSeq (sIf (pTst (pOp (kP (gOrd (fun i j => decide (j < i)) fun a b => decide (b < a))) (pCB kLen (pOne (pVar 0))) (pC (.int 0)))) (sAsg (pOp kAdd (pOp kIx (pVar 0) (pOp (kP (gI (fun _ j => 0 < j) fun i j => .int (i % j))) (pVar 1) (pCB kLen (pOne (pVar 0))))) (pVar 1)) (gN 2)) sNext)
  (sRet (pOp (kP (gI0 fun i j => .int (i - j))) (pOp (kP (gI (fun _ j => 0 < j) fun i j => .int (i % j))) (pVar 2) (pOp kAdd (pOp (kP (gI CPow fun i j => .int (i ^ j.toNat))) (pC (.int 10)) (pC (.int 18))) (pC (.int 50)))) (pC (.int 50))))))

/-! _law_made(_law_numbers): slots 0 _law_numbers, 1 _law_found -/
def p_l_made : PS' := (sSeq (sAsg (pLst (pCons (pMk "TooMany" "most" (pOp kIx (pVar 0) (pC (.int 0)))) (pCons (pMk "NoPiece" "at" (pOp kIx (pVar 0) (pC (.int 1)))) (pCons (pMk "NoLap" "k" (pOp kIx (pVar 0) (pC (.int 2)))) (pCons (pMk0 "NoOrder") (pCons (pMk "NotHeld" "at" (pOp kIx (pVar 0) (pC (.int 3)))) (pOne (pMk0 "NoTable")))))))) (gN 1))
  (sSeq (sAsg (pOp kAdd (pVar 1) (pLst (pCons (pMk0 "NoRing") (pCons (pMk "TooGreat" "most" (pOp kIx (pVar 0) (pC (.int 4)))) (pCons (pMk0 "NoWords") (pCons (pMk "NotApart" "at" (pOp kIx (pVar 0) (pC (.int 5)))) (pOne (pMk "NoCounts" "at" (pOp kIx (pVar 0) (pC (.int 6))))))))))) (gN 1))
  (sRet (pOp kAdd (pVar 1) (pLst (pCons (pMk "NotCovered" "at" (pOp kIx (pVar 0) (pC (.int 7)))) (pCons (pMk "NoLine" "at" (pOp kIx (pVar 0) (pC (.int 8)))) (pCons (pMk0 "NoPaper") (pOne (pMk0 "NotTold"))))))))))

/-! _law_kinds(_law_one): slots 0 _law_one, 1 _law_found -/
def p_l_kinds : PS' := (sSeq (sAsg (pLst (pCons (pIsT ["GlueError", "TooMany", "NoPiece", "NoLap", "NoOrder", "NotHeld", "NoTable", "NoRing", "TooGreat", "NoWords", "NotApart", "NoCounts", "NotCovered", "NoLine", "NoPaper", "NotTold"] "TooMany" (pVar 0)) (pCons (pIsT ["GlueError", "TooMany", "NoPiece", "NoLap", "NoOrder", "NotHeld", "NoTable", "NoRing", "TooGreat", "NoWords", "NotApart", "NoCounts", "NotCovered", "NoLine", "NoPaper", "NotTold"] "NoPiece" (pVar 0)) (pCons (pIsT ["GlueError", "TooMany", "NoPiece", "NoLap", "NoOrder", "NotHeld", "NoTable", "NoRing", "TooGreat", "NoWords", "NotApart", "NoCounts", "NotCovered", "NoLine", "NoPaper", "NotTold"] "NoLap" (pVar 0)) (pOne (pIsT ["GlueError", "TooMany", "NoPiece", "NoLap", "NoOrder", "NotHeld", "NoTable", "NoRing", "TooGreat", "NoWords", "NotApart", "NoCounts", "NotCovered", "NoLine", "NoPaper", "NotTold"] "NoOrder" (pVar 0))))))) (gN 1))
  (sSeq (sAsg (pOp kAdd (pVar 1) (pLst (pCons (pIsT ["GlueError", "TooMany", "NoPiece", "NoLap", "NoOrder", "NotHeld", "NoTable", "NoRing", "TooGreat", "NoWords", "NotApart", "NoCounts", "NotCovered", "NoLine", "NoPaper", "NotTold"] "NotHeld" (pVar 0)) (pCons (pIsT ["GlueError", "TooMany", "NoPiece", "NoLap", "NoOrder", "NotHeld", "NoTable", "NoRing", "TooGreat", "NoWords", "NotApart", "NoCounts", "NotCovered", "NoLine", "NoPaper", "NotTold"] "NoTable" (pVar 0)) (pOne (pIsT ["GlueError", "TooMany", "NoPiece", "NoLap", "NoOrder", "NotHeld", "NoTable", "NoRing", "TooGreat", "NoWords", "NotApart", "NoCounts", "NotCovered", "NoLine", "NoPaper", "NotTold"] "NoRing" (pVar 0))))))) (gN 1))
  (sSeq (sAsg (pOp kAdd (pVar 1) (pLst (pCons (pIsT ["GlueError", "TooMany", "NoPiece", "NoLap", "NoOrder", "NotHeld", "NoTable", "NoRing", "TooGreat", "NoWords", "NotApart", "NoCounts", "NotCovered", "NoLine", "NoPaper", "NotTold"] "TooGreat" (pVar 0)) (pCons (pIsT ["GlueError", "TooMany", "NoPiece", "NoLap", "NoOrder", "NotHeld", "NoTable", "NoRing", "TooGreat", "NoWords", "NotApart", "NoCounts", "NotCovered", "NoLine", "NoPaper", "NotTold"] "NoWords" (pVar 0)) (pOne (pIsT ["GlueError", "TooMany", "NoPiece", "NoLap", "NoOrder", "NotHeld", "NoTable", "NoRing", "TooGreat", "NoWords", "NotApart", "NoCounts", "NotCovered", "NoLine", "NoPaper", "NotTold"] "NotApart" (pVar 0))))))) (gN 1))
  (sSeq (sAsg (pOp kAdd (pVar 1) (pLst (pCons (pIsT ["GlueError", "TooMany", "NoPiece", "NoLap", "NoOrder", "NotHeld", "NoTable", "NoRing", "TooGreat", "NoWords", "NotApart", "NoCounts", "NotCovered", "NoLine", "NoPaper", "NotTold"] "NoCounts" (pVar 0)) (pCons (pIsT ["GlueError", "TooMany", "NoPiece", "NoLap", "NoOrder", "NotHeld", "NoTable", "NoRing", "TooGreat", "NoWords", "NotApart", "NoCounts", "NotCovered", "NoLine", "NoPaper", "NotTold"] "NotCovered" (pVar 0)) (pOne (pIsT ["GlueError", "TooMany", "NoPiece", "NoLap", "NoOrder", "NotHeld", "NoTable", "NoRing", "TooGreat", "NoWords", "NotApart", "NoCounts", "NotCovered", "NoLine", "NoPaper", "NotTold"] "NoLine" (pVar 0))))))) (gN 1))
  (sRet (pOp kAdd (pVar 1) (pLst (pCons (pIsT ["GlueError", "TooMany", "NoPiece", "NoLap", "NoOrder", "NotHeld", "NoTable", "NoRing", "TooGreat", "NoWords", "NotApart", "NoCounts", "NotCovered", "NoLine", "NoPaper", "NotTold"] "NoPaper" (pVar 0)) (pOne (pIsT ["GlueError", "TooMany", "NoPiece", "NoLap", "NoOrder", "NotHeld", "NoTable", "NoRing", "TooGreat", "NoWords", "NotApart", "NoCounts", "NotCovered", "NoLine", "NoPaper", "NotTold"] "NotTold" (pVar 0)))))))))))

/-! _law_fields(_law_made_here): slots 0 _law_made_here, 1 _law_found -/
def p_l_fields : PS' := (sSeq (sAsg (pLst (pCons (pXf ["GlueError", "TooMany", "NoPiece", "NoLap", "NoOrder", "NotHeld", "NoTable", "NoRing", "TooGreat", "NoWords", "NotApart", "NoCounts", "NotCovered", "NoLine", "NoPaper", "NotTold"] "most" (pOp kIx (pVar 0) (pC (.int 0)))) (pCons (pXf ["GlueError", "TooMany", "NoPiece", "NoLap", "NoOrder", "NotHeld", "NoTable", "NoRing", "TooGreat", "NoWords", "NotApart", "NoCounts", "NotCovered", "NoLine", "NoPaper", "NotTold"] "at" (pOp kIx (pVar 0) (pC (.int 1)))) (pCons (pXf ["GlueError", "TooMany", "NoPiece", "NoLap", "NoOrder", "NotHeld", "NoTable", "NoRing", "TooGreat", "NoWords", "NotApart", "NoCounts", "NotCovered", "NoLine", "NoPaper", "NotTold"] "k" (pOp kIx (pVar 0) (pC (.int 2)))) (pCons (pXf ["GlueError", "TooMany", "NoPiece", "NoLap", "NoOrder", "NotHeld", "NoTable", "NoRing", "TooGreat", "NoWords", "NotApart", "NoCounts", "NotCovered", "NoLine", "NoPaper", "NotTold"] "at" (pOp kIx (pVar 0) (pC (.int 4)))) (pCons (pXf ["GlueError", "TooMany", "NoPiece", "NoLap", "NoOrder", "NotHeld", "NoTable", "NoRing", "TooGreat", "NoWords", "NotApart", "NoCounts", "NotCovered", "NoLine", "NoPaper", "NotTold"] "most" (pOp kIx (pVar 0) (pC (.int 7)))) (pOne (pXf ["GlueError", "TooMany", "NoPiece", "NoLap", "NoOrder", "NotHeld", "NoTable", "NoRing", "TooGreat", "NoWords", "NotApart", "NoCounts", "NotCovered", "NoLine", "NoPaper", "NotTold"] "at" (pOp kIx (pVar 0) (pC (.int 9))))))))))) (gN 1))
  (sRet (pOp kAdd (pVar 1) (pLst (pCons (pXf ["GlueError", "TooMany", "NoPiece", "NoLap", "NoOrder", "NotHeld", "NoTable", "NoRing", "TooGreat", "NoWords", "NotApart", "NoCounts", "NotCovered", "NoLine", "NoPaper", "NotTold"] "at" (pOp kIx (pVar 0) (pC (.int 10)))) (pCons (pXf ["GlueError", "TooMany", "NoPiece", "NoLap", "NoOrder", "NotHeld", "NoTable", "NoRing", "TooGreat", "NoWords", "NotApart", "NoCounts", "NotCovered", "NoLine", "NoPaper", "NotTold"] "at" (pOp kIx (pVar 0) (pC (.int 11)))) (pOne (pXf ["GlueError", "TooMany", "NoPiece", "NoLap", "NoOrder", "NotHeld", "NoTable", "NoRing", "TooGreat", "NoWords", "NotApart", "NoCounts", "NotCovered", "NoLine", "NoPaper", "NotTold"] "at" (pOp kIx (pVar 0) (pC (.int 12)))))))))))

/-! law(_law_script): slots 0 _law_script, 1 _law_numbers, 2 _law_others, 3 _law_made_here, 4 _law_later, 5 _law_k, 6 _law_one, 7 _law_number_here, 8 _law_place -/
def p_l_law : PS' := (sSeq (sAsg (pLc (pIA kR1 (pOne (pC (.int 9)))) (gN 5) pYes (pCall 2 none S_l_number (pCons (pVar 0) (pOne (pVar 5)))) [5]) (gN 1))
  (sSeq (sAsg (pLc (pIter (pVar 1)) (gN 7) pYes (pOp kAdd (pVar 7) (pC (.int 1))) [7]) (gN 2))
  (sSeq (sAsg (pCall 1 none S_l_made (pOne (pVar 1))) (gN 3))
  (sSeq (sAsg (pCall 1 none S_l_made (pOne (pVar 2))) (gN 4))
  (sSeq (sFor (pEnum (pVar 3)) (gT 2 (gsCons (gN 5) (gsCons (gN 6) gsNil))) (sSeq (sIf (pOrT (pNotT (pTru (pIsT ["GlueError", "TooMany", "NoPiece", "NoLap", "NoOrder", "NotHeld", "NoTable", "NoRing", "TooGreat", "NoWords", "NotApart", "NoCounts", "NotCovered", "NoLine", "NoPaper", "NotTold"] "GlueError" (pVar 6)))) (pNotT (pTru (pIsV ["GlueError", "TooMany", "NoPiece", "NoLap", "NoOrder", "NotHeld", "NoTable", "NoRing", "TooGreat", "NoWords", "NotApart", "NoCounts", "NotCovered", "NoLine", "NoPaper", "NotTold"] (pVar 6))))) (sRet (pC (.bl false))) sNext)
  (sIf (pTst (pOp (kP gNe) (pCall 1 none S_l_kinds (pOne (pVar 6))) (pLc (pIA kR1 (pOne (pC (.int 15)))) (gN 8) pYes (pOp (kP gEq) (pVar 8) (pVar 5)) [8]))) (sRet (pC (.bl false))) sNext)))
  (sRet (pAndV (pOp (kP gEq) (pCall 1 none S_l_fields (pOne (pVar 3))) (pVar 1)) (pOp (kP gEq) (pCall 1 none S_l_fields (pOne (pVar 4))) (pVar 2)))))))))

theorem pur_l_number : ∀ ds Q, ds.length = 2 → S_l_number ds Q → p_l_number (ends none Q) (entry none 1 ds) := by
  intro ds Q hl h
  obtain ⟨ns, d, k, rfl, hr, hk, h⟩ := h
  rw [ent_none]
  show p_l_number _ [some (.sh false d), some (.sh false (.int k)), none]
  have en : entry none 1 [d, .int k] = [some (.sh false d), some (.sh false (.int k)), none] := by rcases hr.1 with rfl | rfl <;> rfl
  unfold p_l_number
  have nl := hr.2
  rw [y_seq]
  refine cutI (fun ρ => ∃ (c : Int) (f : Bool), ρ = [some (.sh false d), some (.sh false (.int k)), some (.sh f (.int c))]) (fun R hR => ?_) ?_
  · simp
    exact ⟨.inl (.inl (by omega)), hR _ ⟨_, _, rfl⟩⟩
  rintro ρ ⟨c, f, rfl⟩
  dsimp only
  rw [y_seq]
  refine cutI (fun ρ => ∃ (c : Int) (f : Bool), ρ = [some (.sh false d), some (.sh false (.int k)), some (.sh f (.int c))]) (fun R hR => ?_) ?_
  · simp only [z_if]
    have go : 0 < ns.length → ∃ v : Int, atI (ns.map D.int) ((k : Int) % (ns.length : Int)) = some (.int v) := fun z => by
      have em := emod_lt (i := (k : Int)) (j := (ns.length : Int)) (by omega)
      obtain ⟨v, hv, _⟩ := atI_pos (xs := ns.map D.int) em.1 (by simpa using em.2)
      have := atI_mem hv
      obtain ⟨w, _, rfl⟩ := List.mem_map.mp this
      exact ⟨w, hv⟩
    rcases hr.1 with rfl | rfl
    · simp
      split
      · rename_i z
        obtain ⟨v, hv⟩ := go (by omega)
        refine ⟨by omega, _, hv, ?_⟩
        simp
        exact hR _ ⟨_, _, rfl⟩
      · exact hR _ ⟨_, _, rfl⟩
    · simp
      split
      · rename_i z
        obtain ⟨v, hv⟩ := go (by omega)
        refine ⟨by omega, _, hv, ?_⟩
        simp
        exact hR _ ⟨_, _, rfl⟩
      · exact hR _ ⟨_, _, rfl⟩
  rintro ρ ⟨c, f, rfl⟩
  dsimp only
  simp
  exact ⟨⟨by decide, by decide, by decide⟩, h _⟩
theorem pur_l_made : ∀ ds Q, ds.length = 1 → S_l_made ds Q → p_l_made (ends none Q) (entry none 1 ds) := by
  intro ds Q hl h
  obtain ⟨a, b, c, d, e, f, g, h', i, rfl, h⟩ := h
  rw [ent_none]
  show p_l_made _ [some (.sh false (.lst (dInts [a, b, c, d, e, f, g, h', i]))), none]
  unfold p_l_made
  simp
  refine ⟨_, rfl, rfl, _, rfl, rfl, _, rfl, rfl, _, rfl, rfl, by decide, _, rfl, rfl, _, rfl, rfl, _, rfl, rfl, by decide, by decide, _, rfl, rfl, _, rfl, rfl, by decide, by decide, h⟩
theorem pur_l_kinds : ∀ ds Q, ds.length = 1 → S_l_kinds ds Q → p_l_kinds (ends none Q) (entry none 1 ds) := by
  intro ds Q hl h
  obtain ⟨C, ks, fs, rfl, hC, h⟩ := h
  rw [ent_none]
  show p_l_kinds _ [some (.sh false (.exn C ks fs)), none]
  have hm := List.mem_cons_of_mem ("GlueError" : Str) hC
  simp [nmL] at hm
  unfold p_l_kinds
  simp
  repeat first | refine And.intro hm ?_ | refine And.intro (by decide) ?_
  exact h
theorem pur_l_fields : ∀ ds Q, ds.length = 1 → S_l_fields ds Q → p_l_fields (ends none Q) (entry none 1 ds) := by
  intro ds Q hl h
  obtain ⟨a, b, c, d, e, f, g, h', i, rfl, h⟩ := h
  rw [ent_none]
  show p_l_fields _ [some (.sh false (.lst (madeL a b c d e f g h' i))), none]
  unfold p_l_fields
  simp
  repeat first | (refine ⟨_, rfl, ?_⟩; simp) | refine And.intro (by decide) ?_
  exact h
def clsN : D → Str
  | .exn C _ _ => C
  | _ => ""
theorem made_at {a b c d e f g h i : Int} {k : Nat} {x : D} (hk : (madeL a b c d e f g h i)[k]? = some x) : ∃ C ks fs, x = .exn C ks fs ∧ nmL[k]? = some C := by
  have h1 : ∀ x ∈ madeL a b c d e f g h i, ∃ C ks fs, x = .exn C ks fs := by
    intro x hx
    simp only [madeL, List.mem_cons, List.not_mem_nil, or_false] at hx
    rcases hx with rfl | rfl | rfl | rfl | rfl | rfl | rfl | rfl | rfl | rfl | rfl | rfl | rfl | rfl | rfl <;> exact ⟨_, _, _, rfl⟩
  obtain ⟨C, ks, fs, rfl⟩ := h1 x (List.mem_of_getElem? hk)
  have h2 : (madeL a b c d e f g h i).map clsN = nmL := rfl
  refine ⟨C, ks, fs, rfl, ?_⟩
  rw [← h2, List.getElem?_map, hk]
  rfl
theorem kinds_at : ∀ k : Fin 15, nmL.map (excSub (nmL[k.val]'k.isLt)) = (List.range 15).map fun p => decide (p = k.val) := by decide +kernel
theorem glue_at : ∀ k : Fin 15, excSub (nmL[k.val]'k.isLt) "GlueError" = true := by decide +kernel
theorem pur_l_law : ∀ ds Q, ds.length = 1 → S_l_law ds Q → p_l_law (ends none Q) (entry none 8 ds) := by
  intro ds Q hl h
  obtain ⟨ns, hs, h⟩ := h
  obtain ⟨d, rfl, hn, hd, en⟩ := hs.one
  have hr : Row d ns := hs.row
  rw [en]
  show p_l_law _ [some (.sh false d), none, none, none, none, none, none, none, none]
  unfold p_l_law
  rw [y_seq]
  refine cutI (fun ρ => ∃ (f : Bool) (a b c d' e f' g h i : Int), ρ = [some (.sh false d), some (.ow none f (dInts [a, b, c, d', e, f', g, h, i])), none, none, none, none, none, none, none]) (fun R hR => ?_) ?_
  · simp
    refine ⟨r62 (by decide) (by decide), ?_⟩
    refine lc_rgs (fun i fr acc ρ => (∃ l : List Int, l.length = i ∧ acc = dInts l) ∧ ρ = [some (.sh false d), none, none, none, none, none, none, none, none]) ⟨⟨[], rfl, rfl⟩, rfl⟩ ?_ ?_
    · rintro i fr acc ρ R3 hi hR3 ⟨⟨l, hl, rfl⟩, rfl⟩
      simp
      refine ⟨ns, d, i, rfl, hr, by omega, fun m => ?_⟩
      simp
      exact ⟨lt_line (by omega), hR3 _ _ _ ⟨⟨l ++ [m], by simp; omega, by simp⟩, rfl⟩⟩
    · rintro fr acc ρ ⟨⟨l, hl, rfl⟩, rfl⟩
      rw [y_lcEnd]
      match l, hl with
      | [a, b, c, d', e, f', g, h, i], _ =>
        simp
        exact hR _ ⟨_, a, b, c, d', e, f', g, h, i, rfl⟩
  rintro ρ ⟨f, a, b, c, d', e, f', g, h', i, rfl⟩
  dsimp only
  rw [y_seq]
  refine cutI (fun ρ => ∃ (f2 : Bool), ρ = [some (.sh false d), some (.sh f (.lst (dInts [a, b, c, d', e, f', g, h', i]))), some (.ow none f2 (dInts [a + 1, b + 1, c + 1, d' + 1, e + 1, f' + 1, g + 1, h' + 1, i + 1])), none, none, none, none, none, none]) (fun R hR => ?_) ?_
  · generalize hL : [a, b, c, d', e, f', g, h', i] = L at hR ⊢
    have eL : [a + 1, b + 1, c + 1, d' + 1, e + 1, f' + 1, g + 1, h' + 1, i + 1] = L.map (· + 1) := by rw [← hL]; rfl
    have L9 : L.length = 9 := by rw [← hL]; rfl
    rw [eL] at hR
    simp
    refine lc_map (fun j fr acc ρ => acc = dInts ((L.take j).map (· + 1)) ∧ ρ = [some (.sh false d), some (.sh f (.lst (dInts L))), none, none, none, none, none, none, none]) ⟨rfl, rfl⟩ ?_ ?_
    · rintro j m fr acc ρ R3 hi hR3 ⟨rfl, rfl⟩
      have tk : dInts ((L.take (j + 1)).map (· + 1)) = dInts ((L.take j).map (· + 1)) ++ [.int (m + 1)] := by rw [List.take_succ, hi]; simp
      have al : (dInts ((L.take j).map (· + 1))).length ≤ 9 := by rw [List.length_map, List.length_map, List.length_take]; omega
      have g := fun fr => hR3 fr _ _ ⟨rfl, rfl⟩
      simp only [tk] at g
      generalize dInts ((L.take j).map (· + 1)) = acc at al g ⊢
      simp
      exact ⟨lt_line (by omega), g _⟩
    · rintro fr acc ρ ⟨rfl, rfl⟩
      rw [y_lcEnd, List.take_length]
      generalize L.map (· + 1) = L2 at hR ⊢
      simp
      exact hR _ ⟨_, rfl⟩
  rintro ρ ⟨f2, rfl⟩
  dsimp only
  rw [y_seq]
  refine cutI (fun ρ => ρ = [some (.sh false d), some (.sh f (.lst (dInts [a, b, c, d', e, f', g, h', i]))), some (.ow none f2 (dInts [a + 1, b + 1, c + 1, d' + 1, e + 1, f' + 1, g + 1, h' + 1, i + 1])), some (.ow none true (madeL a b c d' e f' g h' i)), none, none, none, none, none]) (fun R hR => ?_) ?_
  · simp
    refine ⟨a, b, c, d', e, f', g, h', i, rfl, ?_⟩
    generalize madeL a b c d' e f' g h' i = M1 at hR ⊢
    simp
    exact hR _ rfl
  rintro ρ rfl
  dsimp only
  rw [y_seq]
  refine cutI (fun ρ => ρ = [some (.sh false d), some (.sh f (.lst (dInts [a, b, c, d', e, f', g, h', i]))), some (.ow none f2 (dInts [a + 1, b + 1, c + 1, d' + 1, e + 1, f' + 1, g + 1, h' + 1, i + 1])), some (.ow none true (madeL a b c d' e f' g h' i)), some (.ow none true (madeL (a + 1) (b + 1) (c + 1) (d' + 1) (e + 1) (f' + 1) (g + 1) (h' + 1) (i + 1))), none, none, none, none]) (fun R hR => ?_) ?_
  · simp
    refine ⟨a + 1, b + 1, c + 1, d' + 1, e + 1, f' + 1, g + 1, h' + 1, i + 1, rfl, ?_⟩
    generalize madeL (a + 1) (b + 1) (c + 1) (d' + 1) (e + 1) (f' + 1) (g + 1) (h' + 1) (i + 1) = M1 at hR ⊢
    simp
    exact hR _ rfl
  rintro ρ rfl
  dsimp only
  rw [y_seq]
  let Z (c5 c6 : Option Cel) : Sto := [some (.sh false d), some (.sh f (.lst (dInts [a, b, c, d', e, f', g, h', i]))), some (.ow none f2 (dInts [a + 1, b + 1, c + 1, d' + 1, e + 1, f' + 1, g + 1, h' + 1, i + 1])), some (.sh true (.lst (madeL a b c d' e f' g h' i))), some (.ow none true (madeL (a + 1) (b + 1) (c + 1) (d' + 1) (e + 1) (f' + 1) (g + 1) (h' + 1) (i + 1))), c5, c6, none, none]
  refine cutI (fun ρ => ∃ c5 c6, ρ = Z c5 c6) (fun R hR => ?_) ?_
  · simp [z_for]
    refine loop_enum (fun j ρ => ∃ c5 c6, ρ = Z c5 c6) ⟨none, none, rfl⟩ ?_ ?_
    · rintro j x R2 ρ hi hR2 ⟨c5, c6, rfl⟩
      obtain ⟨C, ks, fs, rfl, hC⟩ := made_at hi
      have j15 : j < 15 := (List.getElem?_eq_some_iff.mp hC).1
      have eC : nmL[j] = C := (List.getElem?_eq_some_iff.mp hC).2
      have kd := kinds_at ⟨j, j15⟩
      have gl := glue_at ⟨j, j15⟩
      simp only [eC] at kd gl
      have hm := List.mem_cons_of_mem ("GlueError" : Str) (List.mem_of_getElem? hC)
      have hm2 := hm
      simp [nmL] at hm
      simp [Z]
      refine cutI (fun ρ => ρ = Z (some (.sh true (.int j))) (some (.sh true (.exn C ks fs)))) (fun R hR => ?_) ?_
      · simp only [z_if]
        simp
        refine ⟨hm, ?_⟩
        rw [gl]
        simp
        exact ⟨hm, hR _ rfl⟩
      rintro ρ rfl
      dsimp only [Z]
      simp only [z_if]
      simp
      refine ⟨C, ks, fs, rfl, List.mem_of_getElem? hC, ?_⟩
      have eN : nmL.map (fun y => D.bl (excSub C y)) = (List.range 15).map fun p => D.bl (decide (p = j)) := by
        have := congrArg (List.map D.bl) kd
        rw [List.map_map, List.map_map] at this
        exact this
      rw [eN]
      have plb : Plain (.lst ((List.range 15).map fun p => D.bl (decide (p = j)))) := plain_of (lay_lst (n := 0) fun d hd => by obtain ⟨k, _, rfl⟩ := List.mem_map.mp hd; exact lay_bl) (by decide)
      have same : deqs ((List.range 15).map fun p => D.bl (decide (p = j))) ((List.range 15).map fun p => D.bl (decide (p = j))) = true := deqs_same fun d hd => by obtain ⟨k, _, rfl⟩ := List.mem_map.mp hd; simp
      generalize hN : (List.range 15).map (fun p => D.bl (decide (p = j))) = N at plb same ⊢
      simp
      refine ⟨r62 (by decide) (by decide), ?_⟩
      refine lc_rgs (fun m fr acc ρ => acc = (List.range m).map (fun p => D.bl (decide (p = j))) ∧ ρ = Z (some (.sh true (.int j))) (some (.sh true (.exn C ks fs)))) ⟨rfl, rfl⟩ ?_ ?_
      · rintro m fr acc ρ R3 hm hR3 ⟨rfl, rfl⟩
        have tk : (List.range (m + 1)).map (fun p => D.bl (decide (p = j))) = (List.range m).map (fun p => D.bl (decide (p = j))) ++ [D.bl (decide (m = j))] := by rw [List.range_succ, List.map_append]; rfl
        have al : ((List.range m).map (fun p => D.bl (decide (p = j)))).length ≤ 15 := by simp; omega
        have g := fun fr => hR3 fr _ _ ⟨rfl, rfl⟩
        simp only [tk] at g
        generalize (List.range m).map (fun p => D.bl (decide (p = j))) = acc at al g ⊢
        have ej : decide ((m : Int) = (j : Int)) = decide (m = j) := by rw [decide_eq_decide]; omega
        simp [Z]
        rw [ej]
        exact ⟨lt_line (by omega), g _⟩
      · rintro fr acc ρ ⟨rfl, rfl⟩
        rw [y_lcEnd]
        have : (15 : Int).toNat = 15 := rfl
        try rw [this]
        rw [hN]
        simp [Z]
        refine ⟨plb, ?_⟩
        rw [same]
        exact hR2 _ ⟨_, _, rfl⟩
    · rintro ρ ⟨c5, c6, rfl⟩
      exact hR _ ⟨_, _, rfl⟩
  rintro ρ ⟨c5, c6, rfl⟩
  dsimp only [Z]
  simp
  refine ⟨a, b, c, d', e, f', g, h', i, rfl, ?_⟩
  simp
  have pl : ∀ l : List Int, Plain (.lst (dInts l)) := fun l => plain_of (lay_lst (n := 0) fun d hd => by obtain ⟨k, _, rfl⟩ := List.mem_map.mp hd; exact lay_int) (by decide)
  refine ⟨pl [a, b, c, d', e, f', g, h', i], ?_⟩
  refine ⟨a + 1, b + 1, c + 1, d' + 1, e + 1, f' + 1, g + 1, h' + 1, i + 1, rfl, ?_⟩
  simp
  exact ⟨pl [a + 1, b + 1, c + 1, d' + 1, e + 1, f' + 1, g + 1, h' + 1, i + 1], h⟩
end Qq

namespace ZZ
open PySem PySem.Spec PyProof.Rows L2 Qq
set_option maxHeartbeats 0
def top (i : Nat) : Stmt := PySem.Challenge.pw_shortglue_k76_errors.main.body.getD i (.Pass ⟨0, 0, 0, 0⟩)
abbrev FnP (K : PySem.W.Frag) (x : Str) (st : Stmt) (f : Addr) (fd : FuncData) : Prop := FunD K x x (defArgs st) (defBody st) (defScope st) [] [] f fd
abbrev FnPd (dv : List Int) (K : PySem.W.Frag) (x : Str) (st : Stmt) (f : Addr) (fd : FuncData) : Prop := FunD K x x (defArgs st) (defBody st) (defScope st) (dv.map V.int) [] f fd
def inCls (s : Stmt) (j : Nat) : Stmt := match s with
  | .ClassDef _ _ _ b _ _ _ _ _ _ _ => b.getD j (.Pass ⟨0, 0, 0, 0⟩)
  | _ => .Pass ⟨0, 0, 0, 0⟩
structure Fr (mg : Str → Option Value) : Prop where
  one : True
  h_ValueError : mg "ValueError" = none
  h_enumerate : mg "enumerate" = none
  h_isinstance : mg "isinstance" = none
  h_len : mg "len" = none
  h_range : mg "range" = none
section
variable {P : Program} {w : World} {K : PySem.W.Frag} {mg : Str → Option Value} {base : Heap} {f : Addr} {fd : FuncData}
abbrev s_l_number : Stmt := top 18
abbrev n_l_number : List Str := ["_law_script", "_law_k", "_law_cell"]
theorem sc_l_number : FnScope n_l_number ["_law_script", "_law_k"] (defScope s_l_number) := ⟨rfl, rfl, rfl, by decide +kernel, rfl, by decide +kernel, by decide +kernel⟩
theorem ok_l_number (fr : Fr mg)  (F : FnP K "_law_number" s_l_number f fd) : FnOk P w K mg base CX0 1 f fd ["_law_script", "_law_k"] (spQ K 2 none S_l_number) :=
  okQ F sc_l_number (fun cdv A outer s H E hr => qder (qscons (qset 2 sc_l_number.nd (qmul (qint) (qv 1)))
  (qscons (qsif (qtgt  (qlen fr.h_len (qv 0)) (qint)) (qsone (qset 2 sc_l_number.nd (qadd (qix (qv 0) (qmod (qv 1) (qlen fr.h_len (qv 0)))) (qv 1)))) qsnil)
  (qsone (qret (qsub (qmod (qv 2) (qadd (qpow (qint) (qint)) (qint))) (qint))))))) pur_l_number
theorem bn_l_number (F : FnP K "_law_number" s_l_number f fd) : Binds K fd ["_law_script", "_law_k"] [] := F.bindsN fun _ _ _ _ _ _ us hl => match us, hl with | [_, _], _ => rfl

abbrev s_m_TooMany_init : Stmt := inCls (top 2) 0
abbrev n_m_TooMany_init : List Str := ["self", "most"]
theorem sc_m_TooMany_init : FnScope n_m_TooMany_init ["self", "most"] (defScope s_m_TooMany_init) := ⟨rfl, rfl, rfl, by decide +kernel, rfl, by decide +kernel, by decide +kernel⟩
theorem ok_m_TooMany_init (ge : GeC K (He.ga K "GlueError")) (hge : mg "GlueError" = some (.ref (He.ga K "GlueError"))) (oe : OeF K (He.ga K "TooMany")) (no : PySem.W.findIn K (.ref (He.ga K "TooMany")) "most" = some none) (F : FunD K "__init__" "TooMany.__init__" (defArgs s_m_TooMany_init) (defBody s_m_TooMany_init) (defScope s_m_TooMany_init) [] [] f fd) : FnOk P w K mg base CX0 1 f fd ["self", "most"] (spE K (He.ga K "TooMany") "most") :=
  okE F sc_m_TooMany_init oe.c no (fun cdv A outer s H E => pss_cons (ps_expr (pe_geinit ge rfl hge (pa_cons (pe_var rfl (Or.inl rfl)) (pa_cons pe_str pa_nil rfl) rfl) (by decide) rfl rfl rfl) rfl) (pss_one (ps_ost (pe_var rfl (Or.inl rfl)) (pe_var rfl (Or.inl rfl)))))
theorem bn_m_TooMany_init (F : FunD K "__init__" "TooMany.__init__" (defArgs s_m_TooMany_init) (defBody s_m_TooMany_init) (defScope s_m_TooMany_init) [] [] f fd) : Binds K fd ["self", "most"] [] := F.bindsN fun _ _ _ _ _ _ us hl => match us, hl with | [_, _], _ => rfl

abbrev s_m_NoPiece_init : Stmt := inCls (top 3) 0
abbrev n_m_NoPiece_init : List Str := ["self", "at"]
theorem sc_m_NoPiece_init : FnScope n_m_NoPiece_init ["self", "at"] (defScope s_m_NoPiece_init) := ⟨rfl, rfl, rfl, by decide +kernel, rfl, by decide +kernel, by decide +kernel⟩
theorem ok_m_NoPiece_init (ge : GeC K (He.ga K "GlueError")) (hge : mg "GlueError" = some (.ref (He.ga K "GlueError"))) (oe : OeF K (He.ga K "NoPiece")) (no : PySem.W.findIn K (.ref (He.ga K "NoPiece")) "at" = some none) (F : FunD K "__init__" "NoPiece.__init__" (defArgs s_m_NoPiece_init) (defBody s_m_NoPiece_init) (defScope s_m_NoPiece_init) [] [] f fd) : FnOk P w K mg base CX0 1 f fd ["self", "at"] (spE K (He.ga K "NoPiece") "at") :=
  okE F sc_m_NoPiece_init oe.c no (fun cdv A outer s H E => pss_cons (ps_expr (pe_geinit ge rfl hge (pa_cons (pe_var rfl (Or.inl rfl)) (pa_cons pe_str pa_nil rfl) rfl) (by decide) rfl rfl rfl) rfl) (pss_one (ps_ost (pe_var rfl (Or.inl rfl)) (pe_var rfl (Or.inl rfl)))))
theorem bn_m_NoPiece_init (F : FunD K "__init__" "NoPiece.__init__" (defArgs s_m_NoPiece_init) (defBody s_m_NoPiece_init) (defScope s_m_NoPiece_init) [] [] f fd) : Binds K fd ["self", "at"] [] := F.bindsN fun _ _ _ _ _ _ us hl => match us, hl with | [_, _], _ => rfl

abbrev s_m_NoLap_init : Stmt := inCls (top 4) 0
abbrev n_m_NoLap_init : List Str := ["self", "k"]
theorem sc_m_NoLap_init : FnScope n_m_NoLap_init ["self", "k"] (defScope s_m_NoLap_init) := ⟨rfl, rfl, rfl, by decide +kernel, rfl, by decide +kernel, by decide +kernel⟩
theorem ok_m_NoLap_init (ge : GeC K (He.ga K "GlueError")) (hge : mg "GlueError" = some (.ref (He.ga K "GlueError"))) (oe : OeF K (He.ga K "NoLap")) (no : PySem.W.findIn K (.ref (He.ga K "NoLap")) "k" = some none) (F : FunD K "__init__" "NoLap.__init__" (defArgs s_m_NoLap_init) (defBody s_m_NoLap_init) (defScope s_m_NoLap_init) [] [] f fd) : FnOk P w K mg base CX0 1 f fd ["self", "k"] (spE K (He.ga K "NoLap") "k") :=
  okE F sc_m_NoLap_init oe.c no (fun cdv A outer s H E => pss_cons (ps_expr (pe_geinit ge rfl hge (pa_cons (pe_var rfl (Or.inl rfl)) (pa_cons pe_str pa_nil rfl) rfl) (by decide) rfl rfl rfl) rfl) (pss_one (ps_ost (pe_var rfl (Or.inl rfl)) (pe_var rfl (Or.inl rfl)))))
theorem bn_m_NoLap_init (F : FunD K "__init__" "NoLap.__init__" (defArgs s_m_NoLap_init) (defBody s_m_NoLap_init) (defScope s_m_NoLap_init) [] [] f fd) : Binds K fd ["self", "k"] [] := F.bindsN fun _ _ _ _ _ _ us hl => match us, hl with | [_, _], _ => rfl

abbrev s_m_NotHeld_init : Stmt := inCls (top 6) 0
abbrev n_m_NotHeld_init : List Str := ["self", "at"]
theorem sc_m_NotHeld_init : FnScope n_m_NotHeld_init ["self", "at"] (defScope s_m_NotHeld_init) := ⟨rfl, rfl, rfl, by decide +kernel, rfl, by decide +kernel, by decide +kernel⟩
theorem ok_m_NotHeld_init (ge : GeC K (He.ga K "GlueError")) (hge : mg "GlueError" = some (.ref (He.ga K "GlueError"))) (oe : OeF K (He.ga K "NotHeld")) (no : PySem.W.findIn K (.ref (He.ga K "NotHeld")) "at" = some none) (F : FunD K "__init__" "NotHeld.__init__" (defArgs s_m_NotHeld_init) (defBody s_m_NotHeld_init) (defScope s_m_NotHeld_init) [] [] f fd) : FnOk P w K mg base CX0 1 f fd ["self", "at"] (spE K (He.ga K "NotHeld") "at") :=
  okE F sc_m_NotHeld_init oe.c no (fun cdv A outer s H E => pss_cons (ps_expr (pe_geinit ge rfl hge (pa_cons (pe_var rfl (Or.inl rfl)) (pa_cons pe_str pa_nil rfl) rfl) (by decide) rfl rfl rfl) rfl) (pss_one (ps_ost (pe_var rfl (Or.inl rfl)) (pe_var rfl (Or.inl rfl)))))
theorem bn_m_NotHeld_init (F : FunD K "__init__" "NotHeld.__init__" (defArgs s_m_NotHeld_init) (defBody s_m_NotHeld_init) (defScope s_m_NotHeld_init) [] [] f fd) : Binds K fd ["self", "at"] [] := F.bindsN fun _ _ _ _ _ _ us hl => match us, hl with | [_, _], _ => rfl

abbrev s_m_TooGreat_init : Stmt := inCls (top 9) 0
abbrev n_m_TooGreat_init : List Str := ["self", "most"]
theorem sc_m_TooGreat_init : FnScope n_m_TooGreat_init ["self", "most"] (defScope s_m_TooGreat_init) := ⟨rfl, rfl, rfl, by decide +kernel, rfl, by decide +kernel, by decide +kernel⟩
theorem ok_m_TooGreat_init (ge : GeC K (He.ga K "GlueError")) (hge : mg "GlueError" = some (.ref (He.ga K "GlueError"))) (oe : OeF K (He.ga K "TooGreat")) (no : PySem.W.findIn K (.ref (He.ga K "TooGreat")) "most" = some none) (F : FunD K "__init__" "TooGreat.__init__" (defArgs s_m_TooGreat_init) (defBody s_m_TooGreat_init) (defScope s_m_TooGreat_init) [] [] f fd) : FnOk P w K mg base CX0 1 f fd ["self", "most"] (spE K (He.ga K "TooGreat") "most") :=
  okE F sc_m_TooGreat_init oe.c no (fun cdv A outer s H E => pss_cons (ps_expr (pe_geinit ge rfl hge (pa_cons (pe_var rfl (Or.inl rfl)) (pa_cons pe_str pa_nil rfl) rfl) (by decide) rfl rfl rfl) rfl) (pss_one (ps_ost (pe_var rfl (Or.inl rfl)) (pe_var rfl (Or.inl rfl)))))
theorem bn_m_TooGreat_init (F : FunD K "__init__" "TooGreat.__init__" (defArgs s_m_TooGreat_init) (defBody s_m_TooGreat_init) (defScope s_m_TooGreat_init) [] [] f fd) : Binds K fd ["self", "most"] [] := F.bindsN fun _ _ _ _ _ _ us hl => match us, hl with | [_, _], _ => rfl

abbrev s_m_NotApart_init : Stmt := inCls (top 11) 0
abbrev n_m_NotApart_init : List Str := ["self", "at"]
theorem sc_m_NotApart_init : FnScope n_m_NotApart_init ["self", "at"] (defScope s_m_NotApart_init) := ⟨rfl, rfl, rfl, by decide +kernel, rfl, by decide +kernel, by decide +kernel⟩
theorem ok_m_NotApart_init (ge : GeC K (He.ga K "GlueError")) (hge : mg "GlueError" = some (.ref (He.ga K "GlueError"))) (oe : OeF K (He.ga K "NotApart")) (no : PySem.W.findIn K (.ref (He.ga K "NotApart")) "at" = some none) (F : FunD K "__init__" "NotApart.__init__" (defArgs s_m_NotApart_init) (defBody s_m_NotApart_init) (defScope s_m_NotApart_init) [] [] f fd) : FnOk P w K mg base CX0 1 f fd ["self", "at"] (spE K (He.ga K "NotApart") "at") :=
  okE F sc_m_NotApart_init oe.c no (fun cdv A outer s H E => pss_cons (ps_expr (pe_geinit ge rfl hge (pa_cons (pe_var rfl (Or.inl rfl)) (pa_cons pe_str pa_nil rfl) rfl) (by decide) rfl rfl rfl) rfl) (pss_one (ps_ost (pe_var rfl (Or.inl rfl)) (pe_var rfl (Or.inl rfl)))))
theorem bn_m_NotApart_init (F : FunD K "__init__" "NotApart.__init__" (defArgs s_m_NotApart_init) (defBody s_m_NotApart_init) (defScope s_m_NotApart_init) [] [] f fd) : Binds K fd ["self", "at"] [] := F.bindsN fun _ _ _ _ _ _ us hl => match us, hl with | [_, _], _ => rfl

abbrev s_m_NoCounts_init : Stmt := inCls (top 12) 0
abbrev n_m_NoCounts_init : List Str := ["self", "at"]
theorem sc_m_NoCounts_init : FnScope n_m_NoCounts_init ["self", "at"] (defScope s_m_NoCounts_init) := ⟨rfl, rfl, rfl, by decide +kernel, rfl, by decide +kernel, by decide +kernel⟩
theorem ok_m_NoCounts_init (ge : GeC K (He.ga K "GlueError")) (hge : mg "GlueError" = some (.ref (He.ga K "GlueError"))) (oe : OeF K (He.ga K "NoCounts")) (no : PySem.W.findIn K (.ref (He.ga K "NoCounts")) "at" = some none) (F : FunD K "__init__" "NoCounts.__init__" (defArgs s_m_NoCounts_init) (defBody s_m_NoCounts_init) (defScope s_m_NoCounts_init) [] [] f fd) : FnOk P w K mg base CX0 1 f fd ["self", "at"] (spE K (He.ga K "NoCounts") "at") :=
  okE F sc_m_NoCounts_init oe.c no (fun cdv A outer s H E => pss_cons (ps_expr (pe_geinit ge rfl hge (pa_cons (pe_var rfl (Or.inl rfl)) (pa_cons pe_str pa_nil rfl) rfl) (by decide) rfl rfl rfl) rfl) (pss_one (ps_ost (pe_var rfl (Or.inl rfl)) (pe_var rfl (Or.inl rfl)))))
theorem bn_m_NoCounts_init (F : FunD K "__init__" "NoCounts.__init__" (defArgs s_m_NoCounts_init) (defBody s_m_NoCounts_init) (defScope s_m_NoCounts_init) [] [] f fd) : Binds K fd ["self", "at"] [] := F.bindsN fun _ _ _ _ _ _ us hl => match us, hl with | [_, _], _ => rfl

abbrev s_m_NotCovered_init : Stmt := inCls (top 13) 0
abbrev n_m_NotCovered_init : List Str := ["self", "at"]
theorem sc_m_NotCovered_init : FnScope n_m_NotCovered_init ["self", "at"] (defScope s_m_NotCovered_init) := ⟨rfl, rfl, rfl, by decide +kernel, rfl, by decide +kernel, by decide +kernel⟩
theorem ok_m_NotCovered_init (ge : GeC K (He.ga K "GlueError")) (hge : mg "GlueError" = some (.ref (He.ga K "GlueError"))) (oe : OeF K (He.ga K "NotCovered")) (no : PySem.W.findIn K (.ref (He.ga K "NotCovered")) "at" = some none) (F : FunD K "__init__" "NotCovered.__init__" (defArgs s_m_NotCovered_init) (defBody s_m_NotCovered_init) (defScope s_m_NotCovered_init) [] [] f fd) : FnOk P w K mg base CX0 1 f fd ["self", "at"] (spE K (He.ga K "NotCovered") "at") :=
  okE F sc_m_NotCovered_init oe.c no (fun cdv A outer s H E => pss_cons (ps_expr (pe_geinit ge rfl hge (pa_cons (pe_var rfl (Or.inl rfl)) (pa_cons pe_str pa_nil rfl) rfl) (by decide) rfl rfl rfl) rfl) (pss_one (ps_ost (pe_var rfl (Or.inl rfl)) (pe_var rfl (Or.inl rfl)))))
theorem bn_m_NotCovered_init (F : FunD K "__init__" "NotCovered.__init__" (defArgs s_m_NotCovered_init) (defBody s_m_NotCovered_init) (defScope s_m_NotCovered_init) [] [] f fd) : Binds K fd ["self", "at"] [] := F.bindsN fun _ _ _ _ _ _ us hl => match us, hl with | [_, _], _ => rfl

abbrev s_m_NoLine_init : Stmt := inCls (top 14) 0
abbrev n_m_NoLine_init : List Str := ["self", "at"]
theorem sc_m_NoLine_init : FnScope n_m_NoLine_init ["self", "at"] (defScope s_m_NoLine_init) := ⟨rfl, rfl, rfl, by decide +kernel, rfl, by decide +kernel, by decide +kernel⟩
theorem ok_m_NoLine_init (ge : GeC K (He.ga K "GlueError")) (hge : mg "GlueError" = some (.ref (He.ga K "GlueError"))) (oe : OeF K (He.ga K "NoLine")) (no : PySem.W.findIn K (.ref (He.ga K "NoLine")) "at" = some none) (F : FunD K "__init__" "NoLine.__init__" (defArgs s_m_NoLine_init) (defBody s_m_NoLine_init) (defScope s_m_NoLine_init) [] [] f fd) : FnOk P w K mg base CX0 1 f fd ["self", "at"] (spE K (He.ga K "NoLine") "at") :=
  okE F sc_m_NoLine_init oe.c no (fun cdv A outer s H E => pss_cons (ps_expr (pe_geinit ge rfl hge (pa_cons (pe_var rfl (Or.inl rfl)) (pa_cons pe_str pa_nil rfl) rfl) (by decide) rfl rfl rfl) rfl) (pss_one (ps_ost (pe_var rfl (Or.inl rfl)) (pe_var rfl (Or.inl rfl)))))
theorem bn_m_NoLine_init (F : FunD K "__init__" "NoLine.__init__" (defArgs s_m_NoLine_init) (defBody s_m_NoLine_init) (defScope s_m_NoLine_init) [] [] f fd) : Binds K fd ["self", "at"] [] := F.bindsN fun _ _ _ _ _ _ us hl => match us, hl with | [_, _], _ => rfl

abbrev s_l_made : Stmt := top 19
abbrev n_l_made : List Str := ["_law_numbers", "_law_found"]
theorem sc_l_made : FnScope n_l_made ["_law_numbers"] (defScope s_l_made) := ⟨rfl, rfl, rfl, by decide +kernel, rfl, by decide +kernel, by decide +kernel⟩
theorem ok_l_made (fr : Fr mg) (g0_NoOrder : GotE0 K mg "NoOrder") (g0_NoTable : GotE0 K mg "NoTable") (g0_NoRing : GotE0 K mg "NoRing") (g0_NoWords : GotE0 K mg "NoWords") (g0_NoPaper : GotE0 K mg "NoPaper") (g0_NotTold : GotE0 K mg "NotTold") (g_m_TooMany_init : GotE P w K mg base 1 "TooMany" ["self", "most"] "most") (g_m_NoPiece_init : GotE P w K mg base 1 "NoPiece" ["self", "at"] "at") (g_m_NoLap_init : GotE P w K mg base 1 "NoLap" ["self", "k"] "k") (g_m_NotHeld_init : GotE P w K mg base 1 "NotHeld" ["self", "at"] "at") (g_m_TooGreat_init : GotE P w K mg base 1 "TooGreat" ["self", "most"] "most") (g_m_NotApart_init : GotE P w K mg base 1 "NotApart" ["self", "at"] "at") (g_m_NoCounts_init : GotE P w K mg base 1 "NoCounts" ["self", "at"] "at") (g_m_NotCovered_init : GotE P w K mg base 1 "NotCovered" ["self", "at"] "at") (g_m_NoLine_init : GotE P w K mg base 1 "NoLine" ["self", "at"] "at") (F : FnP K "_law_made" s_l_made f fd) : FnOk P w K mg base CX0 3 f fd ["_law_numbers"] (spQ K 1 none S_l_made) :=
  okQ F sc_l_made (fun cdv A outer s H E hr => qder (qscons (qset 1 sc_l_made.nd (qlst (qcons (qmk g_m_TooMany_init (hr.mono (by decide)) (qix (qv 0) (qint))) (qcons (qmk g_m_NoPiece_init (hr.mono (by decide)) (qix (qv 0) (qint))) (qcons (qmk g_m_NoLap_init (hr.mono (by decide)) (qix (qv 0) (qint))) (qcons (qmk0 g0_NoOrder) (qcons (qmk g_m_NotHeld_init (hr.mono (by decide)) (qix (qv 0) (qint))) (qone (qmk0 g0_NoTable)))))))))
  (qscons (qset 1 sc_l_made.nd (qadd (qv 1) (qlst (qcons (qmk0 g0_NoRing) (qcons (qmk g_m_TooGreat_init (hr.mono (by decide)) (qix (qv 0) (qint))) (qcons (qmk0 g0_NoWords) (qcons (qmk g_m_NotApart_init (hr.mono (by decide)) (qix (qv 0) (qint))) (qone (qmk g_m_NoCounts_init (hr.mono (by decide)) (qix (qv 0) (qint)))))))))))
  (qsone (qret (qadd (qv 1) (qlst (qcons (qmk g_m_NotCovered_init (hr.mono (by decide)) (qix (qv 0) (qint))) (qcons (qmk g_m_NoLine_init (hr.mono (by decide)) (qix (qv 0) (qint))) (qcons (qmk0 g0_NoPaper) (qone (qmk0 g0_NotTold)))))))))))) pur_l_made
theorem bn_l_made (F : FnP K "_law_made" s_l_made f fd) : Binds K fd ["_law_numbers"] [] := F.bindsN fun _ _ _ _ _ _ us hl => match us, hl with | [_], _ => rfl

abbrev s_l_kinds : Stmt := top 20
abbrev n_l_kinds : List Str := ["_law_one", "_law_found"]
theorem sc_l_kinds : FnScope n_l_kinds ["_law_one"] (defScope s_l_kinds) := ⟨rfl, rfl, rfl, by decide +kernel, rfl, by decide +kernel, by decide +kernel⟩
theorem ok_l_kinds (fr : Fr mg) (ex : ExG K mg ["GlueError", "TooMany", "NoPiece", "NoLap", "NoOrder", "NotHeld", "NoTable", "NoRing", "TooGreat", "NoWords", "NotApart", "NoCounts", "NotCovered", "NoLine", "NoPaper", "NotTold"] ["most", "at", "k"])  (F : FnP K "_law_kinds" s_l_kinds f fd) : FnOk P w K mg base CX0 1 f fd ["_law_one"] (spQ K 1 none S_l_kinds) :=
  okQ F sc_l_kinds (fun cdv A outer s H E hr => qder (qscons (qset 1 sc_l_kinds.nd (qlst (qcons (qisT ex (by decide +kernel) fr.h_isinstance (qv 0)) (qcons (qisT ex (by decide +kernel) fr.h_isinstance (qv 0)) (qcons (qisT ex (by decide +kernel) fr.h_isinstance (qv 0)) (qone (qisT ex (by decide +kernel) fr.h_isinstance (qv 0))))))))
  (qscons (qset 1 sc_l_kinds.nd (qadd (qv 1) (qlst (qcons (qisT ex (by decide +kernel) fr.h_isinstance (qv 0)) (qcons (qisT ex (by decide +kernel) fr.h_isinstance (qv 0)) (qone (qisT ex (by decide +kernel) fr.h_isinstance (qv 0))))))))
  (qscons (qset 1 sc_l_kinds.nd (qadd (qv 1) (qlst (qcons (qisT ex (by decide +kernel) fr.h_isinstance (qv 0)) (qcons (qisT ex (by decide +kernel) fr.h_isinstance (qv 0)) (qone (qisT ex (by decide +kernel) fr.h_isinstance (qv 0))))))))
  (qscons (qset 1 sc_l_kinds.nd (qadd (qv 1) (qlst (qcons (qisT ex (by decide +kernel) fr.h_isinstance (qv 0)) (qcons (qisT ex (by decide +kernel) fr.h_isinstance (qv 0)) (qone (qisT ex (by decide +kernel) fr.h_isinstance (qv 0))))))))
  (qsone (qret (qadd (qv 1) (qlst (qcons (qisT ex (by decide +kernel) fr.h_isinstance (qv 0)) (qone (qisT ex (by decide +kernel) fr.h_isinstance (qv 0))))))))))))) pur_l_kinds
theorem bn_l_kinds (F : FnP K "_law_kinds" s_l_kinds f fd) : Binds K fd ["_law_one"] [] := F.bindsN fun _ _ _ _ _ _ us hl => match us, hl with | [_], _ => rfl

abbrev s_l_fields : Stmt := top 21
abbrev n_l_fields : List Str := ["_law_made_here", "_law_found"]
theorem sc_l_fields : FnScope n_l_fields ["_law_made_here"] (defScope s_l_fields) := ⟨rfl, rfl, rfl, by decide +kernel, rfl, by decide +kernel, by decide +kernel⟩
theorem ok_l_fields (fr : Fr mg) (ex : ExG K mg ["GlueError", "TooMany", "NoPiece", "NoLap", "NoOrder", "NotHeld", "NoTable", "NoRing", "TooGreat", "NoWords", "NotApart", "NoCounts", "NotCovered", "NoLine", "NoPaper", "NotTold"] ["most", "at", "k"])  (F : FnP K "_law_fields" s_l_fields f fd) : FnOk P w K mg base CX0 1 f fd ["_law_made_here"] (spQ K 1 none S_l_fields) :=
  okQ F sc_l_fields (fun cdv A outer s H E hr => qder (qscons (qset 1 sc_l_fields.nd (qlst (qcons (qxf ex (by decide +kernel) (qix (qv 0) (qint))) (qcons (qxf ex (by decide +kernel) (qix (qv 0) (qint))) (qcons (qxf ex (by decide +kernel) (qix (qv 0) (qint))) (qcons (qxf ex (by decide +kernel) (qix (qv 0) (qint))) (qcons (qxf ex (by decide +kernel) (qix (qv 0) (qint))) (qone (qxf ex (by decide +kernel) (qix (qv 0) (qint)))))))))))
  (qsone (qret (qadd (qv 1) (qlst (qcons (qxf ex (by decide +kernel) (qix (qv 0) (qint))) (qcons (qxf ex (by decide +kernel) (qix (qv 0) (qint))) (qone (qxf ex (by decide +kernel) (qix (qv 0) (qint)))))))))))) pur_l_fields
theorem bn_l_fields (F : FnP K "_law_fields" s_l_fields f fd) : Binds K fd ["_law_made_here"] [] := F.bindsN fun _ _ _ _ _ _ us hl => match us, hl with | [_], _ => rfl

abbrev s_l_law : Stmt := top 22
abbrev n_l_law : List Str := ["_law_script", "_law_numbers", "_law_others", "_law_made_here", "_law_later", "_law_k", "_law_one", "_law_number_here", "_law_place"]
theorem sc_l_law : FnScope n_l_law ["_law_script"] (defScope s_l_law) := ⟨rfl, rfl, rfl, by decide +kernel, rfl, by decide +kernel, by decide +kernel⟩
abbrev sp_l_law_0 : Scope := ⟨.function, [(".0", .local), ("_law_k", .local), ("_law_number", .globalImplicit), ("_law_script", .free)], false, false, []⟩
theorem blk_l_law_0 : BlkOk n_l_law (defScope s_l_law) sp_l_law_0 [("_law_k", 5)] := blkOk_by (by decide +kernel)
abbrev sp_l_law_1 : Scope := ⟨.function, [(".0", .local), ("_law_number_here", .local)], false, false, []⟩
theorem blk_l_law_1 : BlkOk n_l_law (defScope s_l_law) sp_l_law_1 [("_law_number_here", 7)] := blkOk_by (by decide +kernel)
abbrev sp_l_law_2 : Scope := ⟨.function, [(".0", .local), ("_law_place", .local), ("_law_k", .free)], false, false, []⟩
theorem blk_l_law_2 : BlkOk n_l_law (defScope s_l_law) sp_l_law_2 [("_law_place", 8)] := blkOk_by (by decide +kernel)
theorem ok_l_law (fr : Fr mg) (ex : ExG K mg ["GlueError", "TooMany", "NoPiece", "NoLap", "NoOrder", "NotHeld", "NoTable", "NoRing", "TooGreat", "NoWords", "NotApart", "NoCounts", "NotCovered", "NoLine", "NoPaper", "NotTold"] ["most", "at", "k"]) (g_l_number : GotQ P w K mg base 1 "_law_number" ["_law_script", "_law_k"] 2 none S_l_number) (g_l_made : GotQ P w K mg base 3 "_law_made" ["_law_numbers"] 1 none S_l_made) (g_l_kinds : GotQ P w K mg base 1 "_law_kinds" ["_law_one"] 1 none S_l_kinds) (g_l_fields : GotQ P w K mg base 1 "_law_fields" ["_law_made_here"] 1 none S_l_fields) (F : FnP K "law" s_l_law f fd) : FnOk P w K mg base CX0 4 f fd ["_law_script"] (spQ K 1 none S_l_law) :=
  okQ F sc_l_law (fun cdv A outer s H E hr => qder (qscons (qsetlc2 (own := [("_law_k", 5)]) 1 rfl sc_l_law.nd rfl (qir1 fr.h_range (qone (qint))) blk_l_law_0 (qgn (vs := [5]) 5 sc_l_law.nd) qtsnil (qcallG g_l_number (hr.mono (by decide)) (qcons (qv 0) (qone (qv 5)))) (fun s H C cl fp => (qgn (vs := [5]) 5 sc_l_law.nd)) (fun s H C cl fp => qtsnil) (fun s H C cl fp => (qcallG g_l_number (hr.mono (by decide)) (qcons (qv 0) (qone (qv 5))))))
  (qscons (qsetlc2 (own := [("_law_number_here", 7)]) 2 rfl sc_l_law.nd rfl (qiany (qv 1)) blk_l_law_1 (qgn (vs := [7]) 7 sc_l_law.nd) qtsnil (qadd (qv 7) (qint)) (fun s H C cl fp => (qgn (vs := [7]) 7 sc_l_law.nd)) (fun s H C cl fp => qtsnil) (fun s H C cl fp => (qadd (qv 7) (qint))))
  (qscons (qset 3 sc_l_law.nd (qcallG g_l_made (hr.mono (by decide)) (qone (qv 1))))
  (qscons (qset 4 sc_l_law.nd (qcallG g_l_made (hr.mono (by decide)) (qone (qv 2))))
  (qscons (qfor .never rfl (qienum fr.h_enumerate (qv 3)) (qgtup (n := 2) rfl (qgcons 5 sc_l_law.nd (qgcons 6 sc_l_law.nd (qgnil (vs := [5, 6]))))) (qscons (qsif (qw (qor (qtnot (qtru (qisT ex (by decide +kernel) fr.h_isinstance (qv 6)))) (qor1 (qtnot (qtru (qisV ex fr.h_isinstance fr.h_ValueError (qv 6))))))) (qsone (qret (qbl))) qsnil)
  (qsone (qsif (qtne hr.units (qcallG g_l_kinds (hr.mono (by decide)) (qone (qv 6))) (qlc2 (own := [("_law_place", 8)]) rfl sc_l_law.nd (qir1 fr.h_range (qone (qint))) blk_l_law_2 (qgn (vs := [8]) 8 sc_l_law.nd) qtsnil (qeq hr.units (qv 8) (qv 5)) (fun s H C cl fp => (qgn (vs := [8]) 8 sc_l_law.nd)) (fun s H C cl fp => qtsnil) (fun s H C cl fp => (qeq hr.units (qv 8) (qv 5))))) (qsone (qret (qbl))) qsnil))))
  (qsone (qret (qvand (qeq hr.units (qcallG g_l_fields (hr.mono (by decide)) (qone (qv 3))) (qv 1)) (qv1 (qeq hr.units (qcallG g_l_fields (hr.mono (by decide)) (qone (qv 4))) (qv 2)))))))))))) pur_l_law
theorem bn_l_law (F : FnP K "law" s_l_law f fd) : Binds K fd ["_law_script"] [] := F.bindsN fun _ _ _ _ _ _ us hl => match us, hl with | [_], _ => rfl

end
/-! the head -/
def d_l_number : He.DefD := ⟨("_law_number", none), "_law_number", "_law_number", defArgs s_l_number, defBody s_l_number, defScope s_l_number, [], []⟩
def d_m_TooMany_init : He.DefD := ⟨("TooMany", some "__init__"), "__init__", "TooMany.__init__", defArgs s_m_TooMany_init, defBody s_m_TooMany_init, defScope s_m_TooMany_init, [], []⟩
def d_m_NoPiece_init : He.DefD := ⟨("NoPiece", some "__init__"), "__init__", "NoPiece.__init__", defArgs s_m_NoPiece_init, defBody s_m_NoPiece_init, defScope s_m_NoPiece_init, [], []⟩
def d_m_NoLap_init : He.DefD := ⟨("NoLap", some "__init__"), "__init__", "NoLap.__init__", defArgs s_m_NoLap_init, defBody s_m_NoLap_init, defScope s_m_NoLap_init, [], []⟩
def d_m_NotHeld_init : He.DefD := ⟨("NotHeld", some "__init__"), "__init__", "NotHeld.__init__", defArgs s_m_NotHeld_init, defBody s_m_NotHeld_init, defScope s_m_NotHeld_init, [], []⟩
def d_m_TooGreat_init : He.DefD := ⟨("TooGreat", some "__init__"), "__init__", "TooGreat.__init__", defArgs s_m_TooGreat_init, defBody s_m_TooGreat_init, defScope s_m_TooGreat_init, [], []⟩
def d_m_NotApart_init : He.DefD := ⟨("NotApart", some "__init__"), "__init__", "NotApart.__init__", defArgs s_m_NotApart_init, defBody s_m_NotApart_init, defScope s_m_NotApart_init, [], []⟩
def d_m_NoCounts_init : He.DefD := ⟨("NoCounts", some "__init__"), "__init__", "NoCounts.__init__", defArgs s_m_NoCounts_init, defBody s_m_NoCounts_init, defScope s_m_NoCounts_init, [], []⟩
def d_m_NotCovered_init : He.DefD := ⟨("NotCovered", some "__init__"), "__init__", "NotCovered.__init__", defArgs s_m_NotCovered_init, defBody s_m_NotCovered_init, defScope s_m_NotCovered_init, [], []⟩
def d_m_NoLine_init : He.DefD := ⟨("NoLine", some "__init__"), "__init__", "NoLine.__init__", defArgs s_m_NoLine_init, defBody s_m_NoLine_init, defScope s_m_NoLine_init, [], []⟩
def d_l_made : He.DefD := ⟨("_law_made", none), "_law_made", "_law_made", defArgs s_l_made, defBody s_l_made, defScope s_l_made, [], []⟩
def d_l_kinds : He.DefD := ⟨("_law_kinds", none), "_law_kinds", "_law_kinds", defArgs s_l_kinds, defBody s_l_kinds, defScope s_l_kinds, [], []⟩
def d_l_fields : He.DefD := ⟨("_law_fields", none), "_law_fields", "_law_fields", defArgs s_l_fields, defBody s_l_fields, defScope s_l_fields, [], []⟩
def d_l_law : He.DefD := ⟨("law", none), "law", "law", defArgs s_l_law, defBody s_l_law, defScope s_l_law, [], []⟩
def fn : List He.DefD := [d_l_number, d_m_TooMany_init, d_m_NoPiece_init, d_m_NoLap_init, d_m_NotHeld_init, d_m_TooGreat_init, d_m_NotApart_init, d_m_NoCounts_init, d_m_NotCovered_init, d_m_NoLine_init, d_l_made, d_l_kinds, d_l_fields, d_l_law]
def exb (K : PySem.W.Frag) : Bool := exFB K ["GlueError", "TooMany", "NoPiece", "NoLap", "NoOrder", "NotHeld", "NoTable", "NoRing", "TooGreat", "NoWords", "NotApart", "NoCounts", "NotCovered", "NoLine", "NoPaper", "NotTold"] ["most", "at", "k"] && (geB K (He.ga K "GlueError") && (["TooMany", "NoPiece", "NoLap", "NotHeld", "TooGreat", "NotApart", "NoCounts", "NotCovered", "NoLine"] : List Str).all fun C => oexCB K (He.ga K C))
def fa : List He.Fa := [.glo "_law_number", .glo "TooMany", .glo "NoPiece", .glo "NoLap", .glo "NotHeld", .glo "TooGreat", .glo "NotApart", .glo "NoCounts", .glo "NotCovered", .glo "NoLine", .glo "_law_made", .glo "_law_kinds", .glo "_law_fields", .glo "law", .free "ValueError", .free "enumerate", .free "isinstance", .free "len", .free "range", .glo "GlueError", .glo "TooMany", .glo "NoPiece", .glo "NoLap", .glo "NoOrder", .glo "NotHeld", .glo "NoTable", .glo "NoRing", .glo "TooGreat", .glo "NoWords", .glo "NotApart", .glo "NoCounts", .glo "NotCovered", .glo "NoLine", .glo "NoPaper", .glo "NotTold", .exc "NoOrder", .exc "NoTable", .exc "NoRing", .exc "NoWords", .exc "NoPaper", .exc "NotTold"]
abbrev R : PySem.W.OpenRow := PySem.W.OpenLaw.row PySem.Challenge.rw_shortglue_k76_errors
abbrev hk : PySem.W.Hook := hookY 6 fa fn exb
def ob (s : PySem.W.SharedT) : AlY := obsY 6 fa fn exb (HandSHeadRun.getT s)
theorem ob_eq (s : PySem.W.SharedT) : ob s = hk.obs s.abs := obsY_eq (HandSHeadRun.getT_eq s)
abbrev loose : List Str := ["GlueError", "TooMany", "NoPiece", "NoLap", "NoOrder", "NotHeld", "NoTable", "NoRing", "TooGreat", "NoWords", "NotApart", "NoCounts", "NotCovered", "NoLine", "NoPaper", "NotTold", "_law_number", "_law_made", "_law_kinds", "_law_fields"]
theorem run (w : World) : HandSHeadRun.RunEq R (PySem.W.view R.prog [22]) hk ob 4300 loose w := by
  intro os
  kernel_rfl
theorem facts {P : Program} {w : World} {K : PySem.W.Frag} {h : Heap} {mg : Str → Option Value} {f : Addr} (X : K.In h) (G : h.Ns mainGlobals mg) (hfa : mg ("law" : Str) = some (.ref f)) (c : He.SaysD fa fn K) (cx : exb K = true) :
    ∃ fd : FuncData, (∀ (s : Shared) (v : Value), BindsTo s fd ⟨[v], []⟩ [("_law_script", v)]) ∧ ∀ base : Heap, K.In base → base.Ns mainGlobals mg → FnOk P w K mg base CX0 4 f fd ["_law_script"] (spQ K 1 none S_l_law) := by
  obtain ⟨fd_l_number, F_l_number⟩ := c.def_ 0 (d := d_l_number) rfl
  obtain ⟨fd_m_TooMany_init, F_m_TooMany_init⟩ := c.def_ 1 (d := d_m_TooMany_init) rfl
  obtain ⟨fd_m_NoPiece_init, F_m_NoPiece_init⟩ := c.def_ 2 (d := d_m_NoPiece_init) rfl
  obtain ⟨fd_m_NoLap_init, F_m_NoLap_init⟩ := c.def_ 3 (d := d_m_NoLap_init) rfl
  obtain ⟨fd_m_NotHeld_init, F_m_NotHeld_init⟩ := c.def_ 4 (d := d_m_NotHeld_init) rfl
  obtain ⟨fd_m_TooGreat_init, F_m_TooGreat_init⟩ := c.def_ 5 (d := d_m_TooGreat_init) rfl
  obtain ⟨fd_m_NotApart_init, F_m_NotApart_init⟩ := c.def_ 6 (d := d_m_NotApart_init) rfl
  obtain ⟨fd_m_NoCounts_init, F_m_NoCounts_init⟩ := c.def_ 7 (d := d_m_NoCounts_init) rfl
  obtain ⟨fd_m_NotCovered_init, F_m_NotCovered_init⟩ := c.def_ 8 (d := d_m_NotCovered_init) rfl
  obtain ⟨fd_m_NoLine_init, F_m_NoLine_init⟩ := c.def_ 9 (d := d_m_NoLine_init) rfl
  obtain ⟨fd_l_made, F_l_made⟩ := c.def_ 10 (d := d_l_made) rfl
  obtain ⟨fd_l_kinds, F_l_kinds⟩ := c.def_ 11 (d := d_l_kinds) rfl
  obtain ⟨fd_l_fields, F_l_fields⟩ := c.def_ 12 (d := d_l_fields) rfl
  obtain ⟨fd_l_law, F_l_law⟩ := c.def_ 13 (d := d_l_law) rfl
  have fr : Fr mg := ⟨trivial, He.free_ok X G (c.fact 14 (f := .free "ValueError") rfl), He.free_ok X G (c.fact 15 (f := .free "enumerate") rfl), He.free_ok X G (c.fact 16 (f := .free "isinstance") rfl), He.free_ok X G (c.fact 17 (f := .free "len") rfl), He.free_ok X G (c.fact 18 (f := .free "range") rfl)⟩
  have ex : ExG K mg ["GlueError", "TooMany", "NoPiece", "NoLap", "NoOrder", "NotHeld", "NoTable", "NoRing", "TooGreat", "NoWords", "NotApart", "NoCounts", "NotCovered", "NoLine", "NoPaper", "NotTold"] ["most", "at", "k"] := ⟨exFB_ok (Bool.and_eq_true_iff.mp cx).1, List.forall_mem_cons.mpr ⟨He.glo_ok X G (c.fact 19 (f := .glo "GlueError") rfl), List.forall_mem_cons.mpr ⟨He.glo_ok X G (c.fact 20 (f := .glo "TooMany") rfl), List.forall_mem_cons.mpr ⟨He.glo_ok X G (c.fact 21 (f := .glo "NoPiece") rfl), List.forall_mem_cons.mpr ⟨He.glo_ok X G (c.fact 22 (f := .glo "NoLap") rfl), List.forall_mem_cons.mpr ⟨He.glo_ok X G (c.fact 23 (f := .glo "NoOrder") rfl), List.forall_mem_cons.mpr ⟨He.glo_ok X G (c.fact 24 (f := .glo "NotHeld") rfl), List.forall_mem_cons.mpr ⟨He.glo_ok X G (c.fact 25 (f := .glo "NoTable") rfl), List.forall_mem_cons.mpr ⟨He.glo_ok X G (c.fact 26 (f := .glo "NoRing") rfl), List.forall_mem_cons.mpr ⟨He.glo_ok X G (c.fact 27 (f := .glo "TooGreat") rfl), List.forall_mem_cons.mpr ⟨He.glo_ok X G (c.fact 28 (f := .glo "NoWords") rfl), List.forall_mem_cons.mpr ⟨He.glo_ok X G (c.fact 29 (f := .glo "NotApart") rfl), List.forall_mem_cons.mpr ⟨He.glo_ok X G (c.fact 30 (f := .glo "NoCounts") rfl), List.forall_mem_cons.mpr ⟨He.glo_ok X G (c.fact 31 (f := .glo "NotCovered") rfl), List.forall_mem_cons.mpr ⟨He.glo_ok X G (c.fact 32 (f := .glo "NoLine") rfl), List.forall_mem_cons.mpr ⟨He.glo_ok X G (c.fact 33 (f := .glo "NoPaper") rfl), List.forall_mem_cons.mpr ⟨He.glo_ok X G (c.fact 34 (f := .glo "NotTold") rfl), fun _ h => nomatch h⟩⟩⟩⟩⟩⟩⟩⟩⟩⟩⟩⟩⟩⟩⟩⟩⟩
  have ge := geB_ok (Bool.and_eq_true_iff.mp (Bool.and_eq_true_iff.mp cx).2).1
  have oe : ∀ C ∈ (["TooMany", "NoPiece", "NoLap", "NotHeld", "TooGreat", "NotApart", "NoCounts", "NotCovered", "NoLine"] : List Str), OeF K (He.ga K C) := fun C hC => oexCB_ok (List.all_eq_true.mp (Bool.and_eq_true_iff.mp (Bool.and_eq_true_iff.mp cx).2).2 C hC)
  have hge := ex.g "GlueError" (by decide +kernel)
  have g0_NoOrder : GotE0 K mg "NoOrder" := by
    obtain ⟨z1, z2, z3, z4⟩ := He.exc_ok (c.fact 35 (f := .exc "NoOrder") rfl)
    exact ⟨z1, z2, z3, z4, ex.g "NoOrder" (by decide +kernel)⟩
  have g0_NoTable : GotE0 K mg "NoTable" := by
    obtain ⟨z1, z2, z3, z4⟩ := He.exc_ok (c.fact 36 (f := .exc "NoTable") rfl)
    exact ⟨z1, z2, z3, z4, ex.g "NoTable" (by decide +kernel)⟩
  have g0_NoRing : GotE0 K mg "NoRing" := by
    obtain ⟨z1, z2, z3, z4⟩ := He.exc_ok (c.fact 37 (f := .exc "NoRing") rfl)
    exact ⟨z1, z2, z3, z4, ex.g "NoRing" (by decide +kernel)⟩
  have g0_NoWords : GotE0 K mg "NoWords" := by
    obtain ⟨z1, z2, z3, z4⟩ := He.exc_ok (c.fact 38 (f := .exc "NoWords") rfl)
    exact ⟨z1, z2, z3, z4, ex.g "NoWords" (by decide +kernel)⟩
  have g0_NoPaper : GotE0 K mg "NoPaper" := by
    obtain ⟨z1, z2, z3, z4⟩ := He.exc_ok (c.fact 39 (f := .exc "NoPaper") rfl)
    exact ⟨z1, z2, z3, z4, ex.g "NoPaper" (by decide +kernel)⟩
  have g0_NotTold : GotE0 K mg "NotTold" := by
    obtain ⟨z1, z2, z3, z4⟩ := He.exc_ok (c.fact 40 (f := .exc "NotTold") rfl)
    exact ⟨z1, z2, z3, z4, ex.g "NotTold" (by decide +kernel)⟩
  have e := hfa.symm.trans (He.glo_ok X G (c.fact 13 (f := .glo "law") rfl))
  have b := FunD.bindsA (ps := ["_law_script"]) F_l_law fun _ _ _ _ _ _ us hl => match us, hl with | [_], _ => rfl
  refine ⟨fd_l_law, fun s v => b s [v] rfl, fun base _ _ => ?_⟩
  have g_l_number : GotQ P w K mg base 1 "_law_number" ["_law_script", "_law_k"] 2 none S_l_number := ⟨_, _, ok_l_number (P := P) (w := w) (base := base) fr    F_l_number, He.glo_ok X G (c.fact 0 (f := .glo "_law_number") rfl), F_l_number.kp, bn_l_number F_l_number⟩
  have g_m_TooMany_init : GotE P w K mg base 1 "TooMany" ["self", "most"] "most" := ⟨_, ok_m_TooMany_init (P := P) (w := w) (base := base) ge hge (oe _ (by decide +kernel)) (ex.f.noF _ (by decide +kernel) _ (by decide +kernel)) F_m_TooMany_init, oe _ (by decide +kernel), ex.g _ (by decide +kernel), bn_m_TooMany_init F_m_TooMany_init⟩
  have g_m_NoPiece_init : GotE P w K mg base 1 "NoPiece" ["self", "at"] "at" := ⟨_, ok_m_NoPiece_init (P := P) (w := w) (base := base) ge hge (oe _ (by decide +kernel)) (ex.f.noF _ (by decide +kernel) _ (by decide +kernel)) F_m_NoPiece_init, oe _ (by decide +kernel), ex.g _ (by decide +kernel), bn_m_NoPiece_init F_m_NoPiece_init⟩
  have g_m_NoLap_init : GotE P w K mg base 1 "NoLap" ["self", "k"] "k" := ⟨_, ok_m_NoLap_init (P := P) (w := w) (base := base) ge hge (oe _ (by decide +kernel)) (ex.f.noF _ (by decide +kernel) _ (by decide +kernel)) F_m_NoLap_init, oe _ (by decide +kernel), ex.g _ (by decide +kernel), bn_m_NoLap_init F_m_NoLap_init⟩
  have g_m_NotHeld_init : GotE P w K mg base 1 "NotHeld" ["self", "at"] "at" := ⟨_, ok_m_NotHeld_init (P := P) (w := w) (base := base) ge hge (oe _ (by decide +kernel)) (ex.f.noF _ (by decide +kernel) _ (by decide +kernel)) F_m_NotHeld_init, oe _ (by decide +kernel), ex.g _ (by decide +kernel), bn_m_NotHeld_init F_m_NotHeld_init⟩
  have g_m_TooGreat_init : GotE P w K mg base 1 "TooGreat" ["self", "most"] "most" := ⟨_, ok_m_TooGreat_init (P := P) (w := w) (base := base) ge hge (oe _ (by decide +kernel)) (ex.f.noF _ (by decide +kernel) _ (by decide +kernel)) F_m_TooGreat_init, oe _ (by decide +kernel), ex.g _ (by decide +kernel), bn_m_TooGreat_init F_m_TooGreat_init⟩
  have g_m_NotApart_init : GotE P w K mg base 1 "NotApart" ["self", "at"] "at" := ⟨_, ok_m_NotApart_init (P := P) (w := w) (base := base) ge hge (oe _ (by decide +kernel)) (ex.f.noF _ (by decide +kernel) _ (by decide +kernel)) F_m_NotApart_init, oe _ (by decide +kernel), ex.g _ (by decide +kernel), bn_m_NotApart_init F_m_NotApart_init⟩
  have g_m_NoCounts_init : GotE P w K mg base 1 "NoCounts" ["self", "at"] "at" := ⟨_, ok_m_NoCounts_init (P := P) (w := w) (base := base) ge hge (oe _ (by decide +kernel)) (ex.f.noF _ (by decide +kernel) _ (by decide +kernel)) F_m_NoCounts_init, oe _ (by decide +kernel), ex.g _ (by decide +kernel), bn_m_NoCounts_init F_m_NoCounts_init⟩
  have g_m_NotCovered_init : GotE P w K mg base 1 "NotCovered" ["self", "at"] "at" := ⟨_, ok_m_NotCovered_init (P := P) (w := w) (base := base) ge hge (oe _ (by decide +kernel)) (ex.f.noF _ (by decide +kernel) _ (by decide +kernel)) F_m_NotCovered_init, oe _ (by decide +kernel), ex.g _ (by decide +kernel), bn_m_NotCovered_init F_m_NotCovered_init⟩
  have g_m_NoLine_init : GotE P w K mg base 1 "NoLine" ["self", "at"] "at" := ⟨_, ok_m_NoLine_init (P := P) (w := w) (base := base) ge hge (oe _ (by decide +kernel)) (ex.f.noF _ (by decide +kernel) _ (by decide +kernel)) F_m_NoLine_init, oe _ (by decide +kernel), ex.g _ (by decide +kernel), bn_m_NoLine_init F_m_NoLine_init⟩
  have g_l_made : GotQ P w K mg base 3 "_law_made" ["_law_numbers"] 1 none S_l_made := ⟨_, _, ok_l_made (P := P) (w := w) (base := base) fr  g0_NoOrder g0_NoTable g0_NoRing g0_NoWords g0_NoPaper g0_NotTold g_m_TooMany_init g_m_NoPiece_init g_m_NoLap_init g_m_NotHeld_init g_m_TooGreat_init g_m_NotApart_init g_m_NoCounts_init g_m_NotCovered_init g_m_NoLine_init F_l_made, He.glo_ok X G (c.fact 10 (f := .glo "_law_made") rfl), F_l_made.kp, bn_l_made F_l_made⟩
  have g_l_kinds : GotQ P w K mg base 1 "_law_kinds" ["_law_one"] 1 none S_l_kinds := ⟨_, _, ok_l_kinds (P := P) (w := w) (base := base) fr  ex   F_l_kinds, He.glo_ok X G (c.fact 11 (f := .glo "_law_kinds") rfl), F_l_kinds.kp, bn_l_kinds F_l_kinds⟩
  have g_l_fields : GotQ P w K mg base 1 "_law_fields" ["_law_made_here"] 1 none S_l_fields := ⟨_, _, ok_l_fields (P := P) (w := w) (base := base) fr  ex   F_l_fields, He.glo_ok X G (c.fact 12 (f := .glo "_law_fields") rfl), F_l_fields.kp, bn_l_fields F_l_fields⟩
  cases e
  exact ok_l_law (P := P) (w := w) (base := base) fr  ex  g_l_number g_l_made g_l_kinds g_l_fields F_l_law

end ZZ
open PySem PySem.W PySem.Calls PyProof.Rows
theorem PySem.Challenge.cw_shortglue_k76_errors_holds : PySem.Challenge.rw_shortglue_k76_errors.Holds := by
  w_on; o_law
  refine HandSHeadRun.head_any (r := OpenLaw.row PySem.Challenge.rw_shortglue_k76_errors) (q := view (OpenLaw.row PySem.Challenge.rw_shortglue_k76_errors).prog [22]) (H := ZZ.hk) (ob := ZZ.ob) (M := 4300) (loose := ZZ.loose) (d := HandSHeadRun.topDef (OpenLaw.row PySem.Challenge.rw_shortglue_k76_errors).prog 22) (kwd := []) ZZ.ob_eq
    (by kernel_rfl) (fun s => by kernel_rfl) ZZ.run (by kernel_rfl) (by kernel_rfl) (by kernel_rfl) (by rfl) (by first | assumption | decide +kernel) (by decide +kernel) ⟨rfl, rfl, rfl, rfl, rfl, by decide +kernel⟩ ?hw ?hc
  case hw => w_witness2
  case hc =>
    refine L2.walk_ofE (l := PySem.Challenge.rw_shortglue_k76_errors) (n := 63) (k := 4) (x := "_law_script") (CX := L2.CX0) rfl (by decide) (by kernel_rfl) ⟨rfl, by decide, by decide⟩ ?F (fun _ _ _ _ z => z)
    intro w mg fa h Y G hmg0
    obtain ⟨K, KX, c⟩ := Y
    have hmg : mg ("law" : PySem.Str) = some (.ref fa) := by
      have e : (HandSHeadRun.topDef (OpenLaw.row PySem.Challenge.rw_shortglue_k76_errors).prog 22).name = ("law" : PySem.Str) := by kernel_rfl
      rw [← e]
      exact hmg0
    obtain ⟨fd, hb, hF⟩ := ZZ.facts (P := (PySem.Challenge.rw_shortglue_k76_errors).prog) (w := w) KX G hmg c.1 c.2
    exact ⟨K, fd, Qq.spQ K 1 none Qq.S_l_law, KX, hb, fun H a ns hl _ hS => Qq.law_sp hS ⟨ns, ⟨.inl rfl, hl⟩, rfl⟩ ⟨ns, ⟨.inr rfl, hl⟩, rfl⟩ (fun _ => rfl), hF⟩
