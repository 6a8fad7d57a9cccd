import PyProof.Rows.All
import Wide.All
import OpenK.AllK
import Wide.FinOn
import PySem.Challenge.RW_og0239_01
open PySem PySem.W PySem.Calls PyProof.Rows PySem.Spec
set_option Elab.async false
set_option maxRecDepth 100000
set_option maxHeartbeats 16000000
set_option linter.all false
namespace Mine
open_top hd for PySem.Challenge.rw_og0239_01
end Mine

namespace Mine

theorem up1 {n a b : Nat} (h : n ≤ a) (e : Nat.ble (a + 1) b = true) : n + 1 ≤ b := Nat.le_trans (Nat.succ_le_succ h) (Nat.le_of_ble_eq_true e)
/-- the state's normal form -/
noncomputable def sg (s₀ : Shared) (h : Heap) (t : Nat) : Shared := ⟨h, s₀.gens, s₀.drawn, t, s₀.os⟩

structure St (g : Heap) (L : Addr) (h : Heap) (m : Str → Option Value) (l : List (Addr × Obj)) : Prop where
  F : Fr g L h m
  N : News g L h l
  D : (l.map (·.1)).Nodup

/-- where an object stands on the ledger, and the ledger with another in its place -/
inductive Spot (d : Addr) (o : Obj) : List (Addr × Obj) → (Obj → List (Addr × Obj)) → Prop
  | head {r} : Spot d o ((d, o) :: r) (fun o' => (d, o') :: r)
  | tail {p r gl} : Spot d o r gl → Spot d o (p :: r) (fun o' => p :: gl o')

theorem Spot.split {d : Addr} {o : Obj} : ∀ {l : List (Addr × Obj)} {gl : Obj → List (Addr × Obj)}, Spot d o l gl → ∃ pre post, l = pre ++ (d, o) :: post ∧ ∀ o', gl o' = pre ++ (d, o') :: post := by
  intro l gl U
  induction U with
  | head => exact ⟨[], _, rfl, fun _ => rfl⟩
  | @tail p r gl U ih =>
    obtain ⟨pre, post, a, b⟩ := ih
    exact ⟨p :: pre, post, congrArg (List.cons p) a, fun o' => congrArg (List.cons p) (b o')⟩
theorem Spot.mem {d : Addr} {o : Obj} {l : List (Addr × Obj)} {gl : Obj → List (Addr × Obj)} (U : Spot d o l gl) : (d, o) ∈ l := by
  obtain ⟨pre, post, rfl, _⟩ := U.split
  exact List.mem_append_right _ (.head _)

section
variable {g h h' : Heap} {L d : Addr} {m m' : Str → Option Value} {l l' : List (Addr × Obj)} {gl : Obj → List (Addr × Obj)} {o o' : Obj}
theorem St.get (S : St g L h m l) {a : Addr} {o : Obj} (hm : (a, o) ∈ l) : h.get? a = some o := (S.N _ hm).1
theorem St.old (S : St g L h m l) {a : Addr} {o : Obj} (e : g.get? a = some o) : h.get? a = some o := S.F.keep a o e
theorem St.grow (S : St g L h m l) (k : ∀ b o, h.get? b = some o → h'.get? b = some o) : St g L h' m l :=
  ⟨S.F.keeps k, fun p hp => ⟨k _ _ (S.N p hp).1, (S.N p hp).2⟩, S.D⟩
theorem St.ne {p q : Addr × Obj} (S : St g L h m (p :: l)) (hq : q ∈ l) : q.1 ≠ p.1 := fun e => by
  have := S.D
  rw [List.map_cons, List.nodup_cons] at this
  exact this.1 (e ▸ List.mem_map_of_mem hq)
theorem nodup_mid {pre post : List (Addr × Obj)} {d : Addr} {o : Obj} (D : ((pre ++ (d, o) :: post).map (·.1)).Nodup) : (∀ p ∈ pre, p.1 ≠ d) ∧ ∀ p ∈ post, p.1 ≠ d := by
  rw [List.map_append, List.map_cons, List.nodup_append] at D
  obtain ⟨_, D2, D3⟩ := D
  rw [List.nodup_cons] at D2
  exact ⟨fun p hp => D3 p.1 (List.mem_map_of_mem hp) d (.head _), fun p hp e => by
    have q := List.mem_map_of_mem (f := fun q : Addr × Obj => q.1) hp
    rw [e] at q
    exact D2.1 q⟩
theorem St.put (S : St g L h m l) (U : Spot d o l gl) (hs : Heap.SameBut d h h') (ho : h'.get? d = some o') : St g L h' m (gl o') := by
  obtain ⟨pre, post, rfl, hg⟩ := U.split
  obtain ⟨a, b⟩ := nodup_mid S.D
  have z := S.N (d, o) (List.mem_append_right _ (.head _))
  refine ⟨S.F.change hs z.2.1 z.2.2, hg o' ▸ news_set S.N a b hs ho, ?_⟩
  rw [hg]
  have := S.D
  simpa using this
theorem St.push (S : St g L h m l) (o : Obj) (hf : o.isFreed = false := by rfl) : St g L (h.push o) m ((h.objs.size, o) :: l) := by
  refine ⟨S.F.push _, S.N.push S.F o hf, ?_⟩
  rw [List.map_cons, List.nodup_cons]
  refine ⟨fun q => ?_, S.D⟩
  obtain ⟨p, hp, e⟩ := List.mem_map.mp q
  exact absurd (Heap.lt_size (S.N p hp).1) (by rw [e]; exact Nat.lt_irrefl _)
theorem St.sub (S : St g L h m l) (hs : ∀ p ∈ l', p ∈ l) (hd : (l'.map (·.1)).Nodup) : St g L h m l' := ⟨S.F, fun p hp => S.N p (hs p hp), hd⟩
theorem St.subl (S : St g L h m l) (hs : l'.Sublist l) : St g L h m l' := S.sub (fun _ hp => hs.subset hp) ((hs.map _).nodup S.D)
theorem St.perm (S : St g L h m l) (p : l'.Perm l) : St g L h m l' := ⟨S.F, fun q hq => S.N q (p.mem_iff.mp hq), (p.map _).nodup_iff.mpr S.D⟩
theorem St.drop {p : Addr × Obj} (S : St g L h m (p :: l)) : St g L h m l :=
  ⟨S.F, fun q hq => S.N q (.tail _ hq), by have := S.D; rw [List.map_cons, List.nodup_cons] at this; exact this.2⟩
theorem St.frame (S : St g L h m l) (hn : h'.Ns L m') (hs : Heap.SameBut L h h') : St g L h' m' l := ⟨S.F.set hn hs, S.N.set hs, S.D⟩
theorem St.asMap (S : St g L h m l) (e : m = m') : St g L h m' l := e ▸ S
end

/-- the frame's names, one stored anew -/
noncomputable def upd (m : Str → Option Value) (x : Str) (v : Value) : Str → Option Value := fun y => if y = x then some v else m y
/-- what the code of a frame stands upon -/
structure Fx (K : Frag) (A : Around) (n : Nat) (g : Heap) (env : Env) (L : Addr) : Prop where
  B : ∃ A₀ base outer, Below A₀ base outer g ∧ A.frames = some (env :: outer)
  T : ∃ p loose mg mb, TopRead p loose mg mb g
  X : K.In g
  hf : env.frame = some L
  hk : env.scope.kind = .function
  dep : A.depth ≤ n + 400
  uni : A.units ≤ 8 * n + 8
  hnd : A.handled = none

theorem Fx.inn {K : Frag} {A : Around} {n : Nat} {g h : Heap} {env : Env} {L : Addr} {m : Str → Option Value} {l : List (Addr × Obj)} (C : Fx K A n g env L) (S : St g L h m l) : K.In h := C.X.keeps S.F.keep

theorem Fx.room {K : Frag} {A : Around} {n : Nat} {g : Heap} {env : Env} {L : Addr} (C : Fx K A n g env L) (hn : n ≤ 100) {r k : Nat} (hr : r ≤ k) (e : Nat.ble k 9000 = true) : A.units + r < 9900 :=
  Nat.lt_of_le_of_lt (Nat.add_le_add (Nat.le_trans C.uni (Nat.add_le_add_right (Nat.mul_le_mul_left 8 hn) 8)) (Nat.le_trans hr (Nat.le_of_ble_eq_true e))) (by decide)
theorem Fx.roomE {K : Frag} {A : Around} {n : Nat} {g : Heap} {env : Env} {L : Addr} (C : Fx K A n g env L) (hn : n ≤ 100) {r : Nat} (he : r ≤ 5) : A.units + 1 + r < 9900 := by
  rw [Nat.add_assoc]
  exact C.room hn (Nat.add_le_add_left he 1) rfl
theorem Fx.deeper {K : Frag} {A : Around} {n : Nat} {g g' : Heap} {env env' : Env} {L L' : Addr} (C : Fx K A n g env L) {base : Heap} (st : g.StaysIn g') {A₀ : Around} {outer : List Env}
    (hA : A.frames = some (env :: outer)) (B' : Below A base (env :: outer) g') (hf : env'.frame = some L') (hk : env'.scope.kind = .function) : Fx K (A.deeper env') (n + 1) g' env' L' := by
  obtain ⟨p, loose, mg, mb, T⟩ := C.T
  refine ⟨⟨A, base, env :: outer, B', Around.frames_deeper hA⟩, ⟨p, loose, mg, mb, T.keeps st⟩, C.X.keeps st, hf, hk, ?_, ?_, C.hnd⟩
  · show A.depth + 1 ≤ n + 1 + 400
    exact Nat.add_right_comm .. ▸ Nat.succ_le_succ C.dep
  · exact Nat.le_trans (Nat.add_le_add_right C.uni 3) (Nat.add_le_add_left (by decide : 3 ≤ 8) (8 * n + 8))

/-- what a called def's end gives back to its caller -/
noncomputable def LeaveS (s₀ : Shared) (g : Heap) (L : Addr) (m : Str → Option Value) (g' : Heap) (L' : Addr) (R : Result → Shared → Prop) (v : Value) (s' : Shared) : Prop :=
  ∃ h'' t'' m' l', s' = sg s₀ h'' t'' ∧ St g' L' h'' m' l' ∧ (St g L h'' m l' → R (.ok (.ret v)) (sg s₀ h'' t''))
theorem leaveS {s₀ : Shared} {g g' h : Heap} {L L' : Addr} {m m' : Str → Option Value} {l' : List (Addr × Obj)} {R : Result → Shared → Prop} {v : Value} {t : Nat} (S : St g' L' h m' l')
    (k : St g L h m l' → R (.ok (.ret v)) (sg s₀ h t)) : LeaveS s₀ g L m g' L' R v (sg s₀ h t) := ⟨_, _, _, _, rfl, S, k⟩
noncomputable def mapOf (xs : List Str) : List Value → Str → Option Value :=
  @List.rec Str (fun _ => List Value → Str → Option Value) (fun _ _ => none) (fun x _ ih vs y => @List.rec Value (fun _ => Option Value) none (fun v vs _ => if y = x then some v else ih vs y) vs) xs
theorem mapOf_none : ∀ (xs : List Str) (vs : List Value) (y : Str), y ∉ xs → mapOf xs vs y = none := by
  intro xs
  induction xs with
  | nil => exact fun _ _ _ => rfl
  | cons x xs ih =>
    intro vs y h
    cases vs with
    | nil => rfl
    | cons v vs =>
      show (if y = x then some v else mapOf xs vs y) = none
      rw [if_neg (fun e : y = x => h (List.mem_cons.mpr (.inl e)))]
      exact ih vs y fun q => h (.tail _ q)
theorem mapOf_zip : ∀ (xs : List Str) (vs : List Value) (y : Str), xs.Nodup → (xs.zip vs).reverse.lookup y = mapOf xs vs y := by
  intro xs
  induction xs with
  | nil => exact fun _ _ _ => rfl
  | cons x xs ih =>
    intro vs y h
    cases vs with
    | nil => rfl
    | cons v vs =>
      rw [List.nodup_cons] at h
      show ((x, v) :: xs.zip vs).reverse.lookup y = if y = x then some v else mapOf xs vs y
      rw [List.reverse_cons, List.lookup_append, ih vs y h.2]
      by_cases e : y = x
      · subst e
        rw [mapOf_none xs vs y h.1, if_pos rfl, List.lookup_cons, beq_self_eq_true]
        rfl
      · rw [if_neg e, List.lookup_cons, beq_eq_false_iff_ne.mpr e]
        exact Option.or_none
noncomputable def flowV : Flow → Value
  | .ret v => v
  | _ => .none

section
variable {prog : Program} {w : World} {K : Frag} {A : Around} {n : Nat} {g h : Heap} {env : Env} {L : Addr} {m : Str → Option Value} {l : List (Addr × Obj)} {s₀ : Shared} {t : Nat}
theorem enter {R : Result → Shared → Prop} {name qual : Str} {params : Arguments} {body : List Stmt} {scope : Scope} {dV kV doc pm cdv ct oc : Value} {an od : Option Addr} {osl : Array (Option Value)} {f : Addr} {kw : List (Str × Value)} {vals : List Value} (names : List Str)
    (C : Fx K A n g env L) (S : St g L h m l)
    (ho : K.lookup f = some ⟨oc, od, .func (fnOf name qual params body scope dV kV doc pm an cdv ct), osl⟩) (hcd : codeIn K cdv qual = true) (hn : n < 500)
    (hbind : BindsTo (sg s₀ h t) (fnOf name qual params body scope dV kV doc pm an cdv ct) ⟨vals, kw⟩ (names.zip vals)) (hloc : ∀ y ∈ names.zip vals, scope.names.lookup y.1 = some .local) (hnd : names.Nodup)
    (hb : ∀ g' L' h' t' env' A', env' = envX qual scope L' f cdv [] → (∀ b o, g.get? b = some o → g'.get? b = some o) → Fx K A' (n + 1) g' env' L' → St g' L' h' (mapOf names vals) l →
      wpAny (model prog w) A' (execs body env') (fun fl s' => LeaveS s₀ g L m g' L' R (flowV fl) s') (fun _ _ => False) (sg s₀ h' t'))
    (hco : scope.isCoroutine = false := by rfl) (hgen : scope.isGenerator = false := by rfl) (hk : scope.kind = .function := by rfl)
    (hcell : ∀ x ∈ scope.names, x.2 ≠ .cell := by decide) : codeAny (model prog w) A (.call (.ref f) ⟨vals, kw⟩) R (sg s₀ h t) := by
  obtain ⟨A₀, base, outer, B, hA⟩ := C.B
  have em : (fun y => (names.zip vals).reverse.lookup y) = mapOf names vals := funext fun y => mapOf_zip names vals y hnd
  have nolim : g.NoLimit := by obtain ⟨p, loose, mg, mb, T⟩ := C.T; exact T.nolimit
  have X := C.inn S
  refine callX_plain (cl := []) (s := sg s₀ h t) (news := l) B S.F S.N nolim hA C.hf C.hk (X _ _ ho) rfl (codeRec_of X hcd) (by have := C.dep; show A.depth < 1000; omega) hbind hloc (fun g' L' h₁ FG F' N' B' st _ => ?_) hcell hco hgen hk
  refine wpAny_mono (hb g' L' h₁ _ _ _ rfl st (C.deeper (A₀ := A₀) st hA B' rfl hk) ⟨em ▸ F', N', S.D⟩) (fun fl s' hl => ?_) fun _ _ x => x.elim
  obtain ⟨h'', t'', m', l', rfl, S', k⟩ := hl
  refine ⟨L', m', l', S'.F, S'.N, fun F N => ?_⟩
  cases fl <;> exact k ⟨F, N, S'.D⟩
end

end Mine

namespace Mine

section
variable {prog : Program} {w : World} {K : Frag} {A : Around} {E : Value → Shared → Prop} {n : Nat} {g h : Heap} {env : Env} {L : Addr} {m : Str → Option Value} {l : List (Addr × Obj)} {s₀ : Shared} {t : Nat}

-- names
variable {cn : Str} {cs : Scope} {fa : Addr} {ccd : Value} {cl : List (Str × Addr)}
theorem r_local {x : Str} {pos : Pos} {v : Value} {Q : Value → Shared → Prop} (he : env = envX cn cs L fa ccd cl) (S : St g L h m l) (hv : m x = some v) (hk : cs.kind = .function) (hx : cs.names.lookup x = some .local) (hd : (x == ("__debug__" : Str)) = false) (hQ : Q v (sg s₀ h t)) :
    wpAny (model prog w) A (eval (.Name x pos) env) Q E (sg s₀ h t) := by subst he; exact nameX_L (s := sg s₀ h t) S.F hv hQ hk hx hd
theorem r_global {x : Str} {pos : Pos} {v : Value} {Q : Value → Shared → Prop} (he : env = envX cn cs L fa ccd cl) (C : Fx K A n g env L) (S : St g L h m l) (e : nsIn K mainGlobals x = some (some v)) (hk : cs.kind = .function) (hx : cs.names.lookup x = some .globalImplicit) (hd : (x == ("__debug__" : Str)) = false) (hQ : Q v (sg s₀ h t)) :
    wpAny (model prog w) A (eval (.Name x pos) env) Q E (sg s₀ h t) := by
  subst he
  obtain ⟨_, _, _, _, T⟩ := C.T
  exact nameX_K (s := sg s₀ h t) S.F C.X T e hQ hk hx hd
theorem r_builtin {x : Str} {pos : Pos} {v : Value} {Q : Value → Shared → Prop} (he : env = envX cn cs L fa ccd cl) (C : Fx K A n g env L) (S : St g L h m l) (e : nsIn K mainGlobals x = some none) (hv : bootBuiltins x = some v) (hn : x ≠ "__name__") (hk : cs.kind = .function) (hx : cs.names.lookup x = some .globalImplicit) (hd : (x == ("__debug__" : Str)) = false) (hQ : Q v (sg s₀ h t)) :
    wpAny (model prog w) A (eval (.Name x pos) env) Q E (sg s₀ h t) := by
  subst he
  obtain ⟨_, _, _, _, T⟩ := C.T
  exact nameX_B (s := sg s₀ h t) S.F C.X T e hv hn hQ hk hx hd
theorem r_cell {x : Str} {pos : Pos} {v : Value} {Q : Value → Shared → Prop} {c : Addr} {o : Obj} (he : env = envX cn cs L fa ccd cl) (S : St g L h m l) (hc : cl.lookup x = some c) (hm : (c, o) ∈ l) (hd : o.data = .cell (some v)) (hk : cs.kind = .function) (hx : cs.names.lookup x = some .cell) (hb : (x == ("__debug__" : Str)) = false) (hQ : Q v (sg s₀ h t)) :
    wpAny (model prog w) A (eval (.Name x pos) env) Q E (sg s₀ h t) := by subst he; exact nameX_C (s := sg s₀ h t) S.N hc hm hd hQ hk hx hb
theorem r_store {x : Str} {v : Value} {Q : Unit → Shared → Prop} (he : env = envX cn cs L fa ccd cl) (S : St g L h m l) (hk : cs.kind = .function) (hx : cs.names.lookup x = some .local)
    (hQ : ∀ h' t', St g L h' (upd m x v) l → Q () (sg s₀ h' t')) : wpAny (model prog w) A (storeName env x v) Q E (sg s₀ h t) := by
  subst he
  exact storeX_L (s := sg s₀ h t) S.F S.N (fun h' F' N' => hQ h' _ ⟨F', N', S.D⟩) hk hx
theorem r_storeC {x : Str} {v : Value} {Q : Unit → Shared → Prop} {c : Addr} {o : Obj} {gl : Obj → List (Addr × Obj)} {v₀ : Option Value} (he : env = envX cn cs L fa ccd cl) (S : St g L h m l) (hc : cl.lookup x = some c) (U : Spot c o l gl) (hd : o.data = .cell v₀) (hk : cs.kind = .function) (hx : cs.names.lookup x = some .cell)
    (hQ : ∀ h' t' o', o'.data = .cell (some v) → St g L h' m (gl o') → Q () (sg s₀ h' t')) : wpAny (model prog w) A (storeName env x v) Q E (sg s₀ h t) := by
  subst he
  have hmem := S.N _ U.mem
  refine wpAny_storeName_cell (s := sg s₀ h t) hk hx hc ⟨o, hmem.1, hd⟩ fun h' hv hs => ?_
  obtain ⟨o', ho', hd'⟩ := hv
  exact hQ h' _ o' hd' (S.put U hs ho')

-- constants
theorem r_cint {i : Int} {k pos} {Q : Value → Shared → Prop} (hQ : ∀ tk t', Q (.int i tk) (sg s₀ h t')) : wpAny (model prog w) A (eval (.Constant (.int i) k pos) env) Q E (sg s₀ h t) := wpAny_Constant_int (s := sg s₀ h t) (hQ _ _)
theorem r_cstr {x : Str} {k pos} {Q : Value → Shared → Prop} (hQ : ∀ tk t', Q (.str x tk) (sg s₀ h t')) : wpAny (model prog w) A (eval (.Constant (.str x) k pos) env) Q E (sg s₀ h t) := Constant_str (s := sg s₀ h t) (hQ _ _)
theorem r_cbytes {x : List UInt8} {k pos} {Q : Value → Shared → Prop} (hQ : ∀ tk t', Q (.bytes x.toArray tk) (sg s₀ h t')) : wpAny (model prog w) A (eval (.Constant (.bytes x) k pos) env) Q E (sg s₀ h t) := PySem.W.Constant_bytes (s := sg s₀ h t) (hQ _ _)
theorem r_cbool {b k pos} {Q : Value → Shared → Prop} (hQ : Q (.bool b) (sg s₀ h t)) : wpAny (model prog w) A (eval (.Constant (.bool b) k pos) env) Q E (sg s₀ h t) := wpAny_Constant_bool (s := sg s₀ h t) hQ
theorem r_cnone {k pos} {Q : Value → Shared → Prop} (hQ : Q .none (sg s₀ h t)) : wpAny (model prog w) A (eval (.Constant .none k pos) env) Q E (sg s₀ h t) := wpAny_Constant_none (s := sg s₀ h t) hQ

-- ints
variable {a b : Int} {ta tb : Tok} {Q : Value → Shared → Prop}
theorem r_add (hQ : ∀ tk t', Q (.int (a + b) tk) (sg s₀ h t')) : wpAny (model prog w) A (binaryOp .Add (.int a ta) (.int b tb)) Q E (sg s₀ h t) := P.add_int (s := sg s₀ h t) (hQ _ _)
theorem r_sub (hQ : ∀ tk t', Q (.int (a - b) tk) (sg s₀ h t')) : wpAny (model prog w) A (binaryOp .Sub (.int a ta) (.int b tb)) Q E (sg s₀ h t) := P.sub_int (s := sg s₀ h t) (hQ _ _)
theorem r_mul (hm : PySem.IntMulOk a b) (hQ : ∀ tk t', Q (.int (a * b) tk) (sg s₀ h t')) : wpAny (model prog w) A (binaryOp .Mult (.int a ta) (.int b tb)) Q E (sg s₀ h t) := P.mul_int (s := sg s₀ h t) (hQ _ _) hm
theorem r_mod (hb : b ≠ 0) (hQ : ∀ tk t', Q (.int (a.fmod b) tk) (sg s₀ h t')) : wpAny (model prog w) A (binaryOp .Mod (.int a ta) (.int b tb)) Q E (sg s₀ h t) := PyProof.Rows.mod_int' (s := sg s₀ h t) hb (hQ _ _)
theorem r_eq (hQ : Q (.bool (a == b)) (sg s₀ h t)) : wpAny (model prog w) A (compareOp .Eq (.int a ta) (.int b tb)) Q E (sg s₀ h t) := P.eq_int hQ
theorem r_ne (hQ : Q (.bool (a != b)) (sg s₀ h t)) : wpAny (model prog w) A (compareOp .NotEq (.int a ta) (.int b tb)) Q E (sg s₀ h t) := P.ne_int hQ
theorem r_lt (hQ : Q (.bool (decide (a < b))) (sg s₀ h t)) : wpAny (model prog w) A (compareOp .Lt (.int a ta) (.int b tb)) Q E (sg s₀ h t) := P.lt_int hQ
theorem r_le (hQ : Q (.bool (decide (a ≤ b))) (sg s₀ h t)) : wpAny (model prog w) A (compareOp .LtE (.int a ta) (.int b tb)) Q E (sg s₀ h t) := P.le_int hQ
theorem r_gt (hQ : Q (.bool (decide (a > b))) (sg s₀ h t)) : wpAny (model prog w) A (compareOp .Gt (.int a ta) (.int b tb)) Q E (sg s₀ h t) := P.gt_int hQ
theorem r_ge (hQ : Q (.bool (decide (a ≥ b))) (sg s₀ h t)) : wpAny (model prog w) A (compareOp .GtE (.int a ta) (.int b tb)) Q E (sg s₀ h t) := P.ge_int hQ
theorem r_neg (hQ : ∀ tk t', Q (.int (-a) tk) (sg s₀ h t')) : wpAny (model prog w) A (unaryOp .USub (.int a ta)) Q E (sg s₀ h t) := P.neg_int (s := sg s₀ h t) (hQ _ _)
theorem r_shl (hn : 0 ≤ b) (hn2 : b ≤ 1000000) (ha : a.natAbs < 2 ^ 64) (hQ : ∀ tk t', Q (.int (a * 2 ^ b.toNat) tk) (sg s₀ h t')) : wpAny (model prog w) A (binaryOp .LShift (.int a ta) (.int b tb)) Q E (sg s₀ h t) :=
  lshift_int_small (s := sg s₀ h t) hn hn2 ha (hQ _ _)
theorem r_or (hQ : ∀ tk t', Q (.int (Builtin.bitOr a b) tk) (sg s₀ h t')) : wpAny (model prog w) A (binaryOp .BitOr (.int a ta) (.int b tb)) Q E (sg s₀ h t) := or_int (s := sg s₀ h t) (hQ _ _)
theorem r_fdiv (hb : b ≠ 0) (hs : b.natAbs < 1073741824) (hQ : ∀ tk t', Q (.int (a.fdiv b) tk) (sg s₀ h t')) : wpAny (model prog w) A (binaryOp .FloorDiv (.int a ta) (.int b tb)) Q E (sg s₀ h t) :=
  floordiv_int (s := sg s₀ h t) hb (hQ _ _) (Or.inl (PyProof.noPylong_small hs))
theorem r_eqs {x y : Str} (hQ : Q (.bool (x.cps.toList == y.cps.toList)) (sg s₀ h t)) : wpAny (model prog w) A (compareOp .Eq (.str x ta) (.str y tb)) Q E (sg s₀ h t) := P.eq_str hQ
theorem r_nes {x y : Str} (hQ : Q (.bool (x.cps.toList != y.cps.toList)) (sg s₀ h t)) : wpAny (model prog w) A (compareOp .NotEq (.str x ta) (.str y tb)) Q E (sg s₀ h t) := P.ne_str hQ

-- what is made
theorem r_tuple {vs : List Value} (S : St g L h m l) (hz : vs.length ≤ sizeLine)
    (hQ : ∀ d h' t', St g L h' m ((d, { cls := .type "tuple", data := .seq vs.toArray }) :: l) → Q (.ref d) (sg s₀ h' t')) : wpAny (model prog w) A (newTuple vs) Q E (sg s₀ h t) :=
  newTuple_N (s := sg s₀ h t) S.F S.N (fun h' F' N' => hQ _ h' _ ⟨F', N', by
    rw [List.map_cons, List.nodup_cons]
    refine ⟨fun q => ?_, S.D⟩
    obtain ⟨p, hp, e⟩ := List.mem_map.mp q
    exact absurd (Heap.lt_size (S.N p hp).1) (by rw [e]; exact Nat.lt_irrefl _)⟩) hz
theorem r_list {vs : List Value} (S : St g L h m l) (hz : vs.length ≤ sizeLine)
    (hQ : ∀ d h' t', St g L h' m ((d, listOf vs.toArray 0) :: l) → Q (.ref d) (sg s₀ h' t')) : wpAny (model prog w) A (newList vs) Q E (sg s₀ h t) :=
  newList_N (s := sg s₀ h t) S.F S.N (fun h' F' N' => hQ _ h' _ ⟨F', N', by
    rw [List.map_cons, List.nodup_cons]
    refine ⟨fun q => ?_, S.D⟩
    obtain ⟨p, hp, e⟩ := List.mem_map.mp q
    exact absurd (Heap.lt_size (S.N p hp).1) (by rw [e]; exact Nat.lt_irrefl _)⟩) hz
end

theorem fst_mem {p : Addr × Obj} {l : List (Addr × Obj)} {d : Addr} (hp : p ∈ l) (e : p.1 = d) : d ∈ l.map (·.1) := by
  subst e
  exact List.mem_map_of_mem hp
theorem spot_upd {d : Addr} {o : Obj} : ∀ {l : List (Addr × Obj)} {gl : Obj → List (Addr × Obj)}, Spot d o l gl → (l.map (·.1)).Nodup → ∀ o', Upd d o o' l (gl o') := by
  intro l gl U
  induction U with
  | head => exact fun D o' => .head fun p hp e => (List.nodup_cons.mp D).1 (fst_mem hp e)
  | tail U ih => exact fun D o' => .tail (fun e => (List.nodup_cons.mp D).1 (fst_mem U.mem e.symm)) (ih (List.nodup_cons.mp D).2 o')
theorem spot_updF {d : Addr} {o : Obj} : ∀ {l : List (Addr × Obj)} {gl : Obj → List (Addr × Obj)}, Spot d o l gl → (l.map (·.1)).Nodup → UpdF d o l gl := by
  intro l gl U
  induction U with
  | head => exact fun D => .head fun p hp e => (List.nodup_cons.mp D).1 (fst_mem hp e)
  | tail U ih => exact fun D => .tail (fun e => (List.nodup_cons.mp D).1 (fst_mem U.mem e.symm)) (ih (List.nodup_cons.mp D).2)
theorem spot_nodup {d : Addr} {o : Obj} {l : List (Addr × Obj)} {gl : Obj → List (Addr × Obj)} (U : Spot d o l gl) (D : (l.map (·.1)).Nodup) (o' : Obj) : ((gl o').map (·.1)).Nodup := by
  obtain ⟨pre, post, rfl, hg⟩ := U.split
  rw [hg]
  simpa using D

section
variable {prog : Program} {w : World} {K : Frag} {A : Around} {E : Value → Shared → Prop} {n : Nat} {g h : Heap} {env : Env} {L : Addr} {m : Str → Option Value} {l : List (Addr × Obj)} {s₀ : Shared} {t : Nat} {Q : Value → Shared → Prop} {gl : Obj → List (Addr × Obj)}
-- objects
theorem r_get {x C dx : Addr} {name : Str} {expr : Bool} {v : Value} {attr : Option Value} {es : List DictEntry} {k : Nat} (S : St g L h m l) (X : K.In g) (h1 : (x, instObj C dx) ∈ l) (h2 : (dx, dictOf es k) ∈ l) (hg : plainGet K C name = true) (hh : hasDictIn K C = true)
    (ha : findIn K (.ref C) name = some attr) (hn : noGet K attr = true) (hl : getL name es = some (some v)) (hv : handedIn v = true) (hQ : ∀ t', Q v (sg s₀ h t')) :
    wpAny (model prog w) A (getAttr (.ref x) name expr) Q E (sg s₀ h t) := get_own (s := sg s₀ h t) S.F X (InstAt.of_news S.N h1 h2) hg hh ha hn hl hv (hQ _)
theorem r_set {x C dx : Addr} {name : Str} {v : Value} {es es' : List DictEntry} {k k' : Nat} {Q : Unit → Shared → Prop} (S : St g L h m l) (X : K.In g) (h1 : (x, instObj C dx) ∈ l) (U : Spot dx (dictOf es k) l gl)
    (hs : findIn K (.ref C) "__setattr__" = some (some (.builtin "object.__setattr__"))) (hp : plainOver K C = true) (ht : takerIn K C name = some none) (hh : hasDictIn K C = true) (hl : (getL name es).isSome = true)
    (e : (putL name (PyData.keyHash w.params name) (.str name (t + 1)) v es, putN name es k) = (es', k')) (hz : es'.length ≤ 1000)
    (hQ : ∀ h' t', St g L h' m (gl (dictOf es' k')) → Q () (sg s₀ h' t')) : wpAny (model prog w) A (setAttr (.ref x) name v) Q E (sg s₀ h t) :=
  set_dict (s := sg s₀ h t) S.F X S.N (InstAt.of_news S.N h1 U.mem) rfl hs hp ht hh hl e (spot_upd U S.D _) hz fun h' F' N' => hQ h' _ ⟨F', N', spot_nodup U S.D _⟩
theorem r_meth {x C dx f : Addr} {name : Str} {pl : Sem Bool} {es : List DictEntry} {k : Nat} {Q : Value × List Value → Shared → Prop} (S : St g L h m l) (X : K.In g) (h1 : (x, instObj C dx) ∈ l) (h2 : (dx, dictOf es k) ∈ l) (hg : plainGet K C name = true)
    (hf : findIn K (.ref C) name = some (some (.ref f))) (ht : isFn K (.ref f) = true) (hl : getL name es = some none) (hQ : Q (.ref f, [.ref x]) (sg s₀ h t)) : wpAny (model prog w) A (getMethod (.ref x) name pl) Q E (sg s₀ h t) :=
  method_inst (s := sg s₀ h t) S.F X (InstAt.of_news S.N h1 h2) hg hf ht hl hQ
theorem r_callWith {f : Value} {pos : Pos} {first : List Value} {e : Expr} {rest : List Expr} (X : K.In g) (hk : keepIn K f = true) (hQ : wpAny (model prog w) A (spliced (backTo pos (starEach (e :: rest) env))) (fun vs s₁ => K.In s₁.heap ∧ wpAny (model prog w) A (call f (first ++ vs)) Q E s₁) E (sg s₀ h t))
    (he : starEach (e :: rest) env = (false, eval e env) :: starEach rest env := by rfl) (hplain : (backTo pos (starEach rest env)).any (·.1) = false := by rfl) :
    wpAny (model prog w) A (callWith pos f first (backTo pos (starEach (e :: rest) env)) []) Q E (sg s₀ h t) := callWith_K X hk hQ he hplain
theorem r_callWith0 {f : Value} {pos : Pos} {first : List Value} (C : Fx K A n g env L) (S : St g L h m l) (hk : keepIn K f = true) (hQ : wpAny (model prog w) A (call f (first ++ [])) Q E (sg s₀ h t)) :
    wpAny (model prog w) A (callWith pos f first (backTo pos (starEach [] env)) []) Q E (sg s₀ h t) := callWith_K0 (s := sg s₀ h t) (C.inn S) hk hQ
theorem r_kin (C : Fx K A n g env L) (S : St g L h m l) {P : Prop} (hP : P) : K.In (sg s₀ h t).heap ∧ P := ⟨C.inn S, hP⟩
/-- a call of a def -/
noncomputable def CallBack (Q : Value → Shared → Prop) (E : Value → Shared → Prop) (r : Result) (s' : Shared) : Prop := match r with | .ok (.ret v) => Q v s' | .ok _ => False | .error e => E e s'
theorem r_call {f : Value} {pos : List Value} {kw : List (Str × Value)} (hQ : codeAny (model prog w) A (.call f ⟨pos, kw⟩) (CallBack Q E) (sg s₀ h t)) : wpAny (model prog w) A (call f pos kw) Q E (sg s₀ h t) := wpAny_call hQ
theorem Fx.making {C₀ : Addr} {rest : List Value} {kw : List (Str × Value)} (C : Fx K A n g env L) : Fx K (A.under (.builtin "type.__call__" ⟨.ref C₀ :: rest, kw⟩)) (n + 1) g env L := by
  obtain ⟨B, T, X, hf, hk, dep, uni, hnd⟩ := C
  refine ⟨?_, T, X, hf, hk, ?_, ?_, hnd⟩
  · obtain ⟨A₀, base, outer, B, hA⟩ := B
    exact ⟨A₀, base, outer, B, hA⟩
  · exact Nat.add_right_comm .. ▸ Nat.succ_le_succ dep
  · exact Nat.add_le_add uni (show (Code.builtin "type.__call__" ⟨.ref C₀ :: rest, kw⟩).cUnits ≤ 8 from Nat.le_of_ble_eq_true rfl)
theorem r_make {C₀ fI : Addr} {pos : List Value} {kw : List (Str × Value)} (C : Fx K A n g env L) (S : St g L h m l) (hm : makesIn K C₀ = true) (hi : findIn K (.ref C₀) "__init__" = some (some (.ref fI))) (hf : isFn K (.ref fI) = true)
    (hQ : ∀ x dx h' t', St g L h' m ((x, instObj C₀ dx) :: (dx, dictOf [] 0) :: l) → Fx K (A.under (.builtin "type.__call__" ⟨.ref C₀ :: pos, kw⟩)) (n + 1) g env L →
      codeAny (model prog w) (A.under (.builtin "type.__call__" ⟨.ref C₀ :: pos, kw⟩)) (.call (.ref fI) ⟨.ref x :: pos, kw⟩) (InitBack x (CallBack Q E)) (sg s₀ h' t')) :
    wpAny (model prog w) A (call (.ref C₀) pos kw) Q E (sg s₀ h t) := by
  refine wpAny_call (make_K (s := sg s₀ h t) S.F S.N (C.inn S) hm hi (beq_iff_eq.mp hf) fun x dx h' F' N' l1 l2 => hQ x dx h' _ ⟨F', N', ?_⟩ C.making)
  rw [List.map_cons, List.nodup_cons, List.map_cons, List.nodup_cons]
  refine ⟨fun q => ?_, fun q => ?_, S.D⟩
  · rcases List.mem_cons.mp q with e | q
    · exact absurd l2 (by rw [show x = dx from e]; exact Nat.lt_irrefl _)
    · obtain ⟨p, hp, e⟩ := List.mem_map.mp q
      have := l1 p hp
      rw [e] at this
      exact absurd (Nat.lt_trans this l2) (Nat.lt_irrefl _)
  · obtain ⟨p, hp, e⟩ := List.mem_map.mp q
    have := l1 p hp
    rw [e] at this
    exact absurd this (Nat.lt_irrefl _)

-- lists
theorem r_lmeth {D : Addr} {its : Array Value} {k : Nat} {name : Str} {id : String} {pl : Sem Bool} {Q : Value × List Value → Shared → Prop} (S : St g L h m l) (hm : (D, listOf its k) ∈ l) (slot : Slot "list" name id) (hty : typeOf (.builtin id) = pure (.type "method_descriptor"))
    (hQ : Q (.builtin id, [.ref D]) (sg s₀ h t)) : wpAny (model prog w) A (getMethod (.ref D) name pl) Q E (sg s₀ h t) := kl_method (s := sg s₀ h t) S.N hm slot hty hQ
theorem r_append {D : Addr} {its : Array Value} {k : Nat} {x : Value} (S : St g L h m l) (U : Spot D (listOf its k) l gl) (hz : its.size ≤ sizeLine)
    (hQ : ∀ h' t', St g L h' m (gl (listOf (its.push x) (k + 1))) → Q .none (sg s₀ h' t')) : wpAny (model prog w) A (call (.builtin "list.append") [.ref D, x]) Q E (sg s₀ h t) :=
  append_K (s := sg s₀ h t) S.F S.N (spot_upd U S.D _) (fun h' F' N' => hQ h' _ ⟨F', N', spot_nodup U S.D _⟩) hz
theorem r_pop {D : Addr} {p : List Value} {y : Value} {k : Nat} (S : St g L h m l) (U : Spot D (listOf (p ++ [y]).toArray k) l gl) (hz : p.length < 1000)
    (hQ : ∀ h' t', St g L h' m (gl (listOf p.toArray (k + 1))) → Q y (sg s₀ h' t')) : wpAny (model prog w) A (call (.builtin "list.pop") [.ref D]) Q E (sg s₀ h t) :=
  kl_pop (s := sg s₀ h t) S.F S.N (kpa_last y p) (spot_upd U S.D _) (by rw [sizeLine_eq]; simp; omega) fun h' F' N' => hQ h' _ ⟨F', N', spot_nodup U S.D _⟩
theorem r_pop0 {D : Addr} {p : List Value} {y : Value} {k : Nat} {u : Tok} (S : St g L h m l) (U : Spot D (listOf (y :: p).toArray k) l gl) (hz : p.length < 1000)
    (hQ : ∀ h' t', St g L h' m (gl (listOf p.toArray (k + 1))) → Q y (sg s₀ h' t')) : wpAny (model prog w) A (call (.builtin "list.pop") [.ref D, .int 0 u]) Q E (sg s₀ h t) := by
  refine kl_popAt (s := sg s₀ h t) (p := []) (q := p) (y := y) (k := 0) S.F S.N (by decide) ?_ rfl (spot_upd U S.D _) ?_ fun h' F' N' => hQ h' _ ⟨F', N', spot_nodup U S.D _⟩
  · simp [seqIndex?]
  · rw [sizeLine_eq]; simp; omega
theorem r_len {D : Addr} {its : Array Value} {k : Nat} (S : St g L h m l) (hm : (D, listOf its k) ∈ l) (hz : its.size < 1000000) (hQ : ∀ tk t', Q (.int its.size tk) (sg s₀ h t')) :
    wpAny (model prog w) A (call (.builtin "len") [.ref D]) Q E (sg s₀ h t) := PyProof.Rows.len_list (s := sg s₀ h t) ⟨_, S.get hm, rfl, k, rfl⟩ (by omega) (hQ _ _)
end
/-- the way on, under one letter -/
theorem foldE {prog : Program} {w : World} {A : Around} {α : Type} {E : Value → Shared → Prop} {x : Sem α} {Q : α → Shared → Prop} {s : Shared} (k : ∀ E' : Value → Shared → Prop, (∀ e s', E e s' → E' e s') → wpAny (model prog w) A x Q E' s) : wpAny (model prog w) A x Q E s := k E fun _ _ h => h
theorem noE {prog : Program} {w : World} {A : Around} {α : Type} {E : Value → Shared → Prop} {x : Sem α} {Q : α → Shared → Prop} {s : Shared} (h : wpAny (model prog w) A x Q (fun _ _ => False) s) : wpAny (model prog w) A x Q E s := wpAny_mono h (fun _ _ h => h) fun _ _ h => h.elim
theorem foldQ {prog : Program} {w : World} {A : Around} {α : Type} {E : Value → Shared → Prop} {x : Sem α} {Q : α → Shared → Prop} {s : Shared} (k : ∀ Q' : α → Shared → Prop, (∀ f s', Q f s' → Q' f s') → wpAny (model prog w) A x Q' E s) : wpAny (model prog w) A x Q E s := k Q fun _ _ h => h
end Mine

namespace Mine

section
variable {prog : Program} {w : World} {K : Frag} {A : Around} {E : Value → Shared → Prop} {n : Nat} {g h : Heap} {env : Env} {L : Addr} {m : Str → Option Value} {l : List (Addr × Obj)} {s₀ : Shared} {t : Nat} {Q : Value → Shared → Prop} {gl : Obj → List (Addr × Obj)}

-- a dict by strs
theorem dictOf_at {d : Addr} {o : Obj} {kvs : List (Str × Value)} (S : St g L h m l) (hm : (d, o) ∈ l) (hd : o.IsDictOf (strKind prog w) kvs) : h.DictOf (strKind prog w) d kvs := Heap.dictOf_iff.mpr ⟨o, S.get hm, hd⟩
theorem r_dsub {d : Addr} {o : Obj} {kvs : List (Str × Value)} {value slice : Expr} {x : Str} {tk : Tok} {v : Value} (S : St g L h m l) (hm : (d, o) ∈ l) (hd : o.IsDictOf (strKind prog w) kvs) (hv : valueAt kvs x = some v)
    (hQ : ∀ t', Q v (sg s₀ h t')) (hs : subscripted slice false (.ref d) (.str x tk) = operate [.ref d, .str x tk] (getItem (.ref d) (.str x tk)) := by with_unfolding_all rfl) :
    wpAny (model prog w) A (subscriptTail value slice (.ref d) (.str x tk)) Q E (sg s₀ h t) :=
  have q : (sg s₀ h t).heap.DictOf (strKind prog w) d kvs := dictOf_at S hm hd
  tail_any q.typeIs slot_dict_getitem.lookup (wpAny_getItem_of (strKind_is prog w x tk) q.mapOf hv (hQ _)) hs
theorem r_dset {d : Addr} {o : Obj} {kvs : List (Str × Value)} {x : Str} {tk : Tok} {v : Value} {Q : Unit → Shared → Prop} (S : St g L h m l) (U : Spot d o l gl) (hd : o.IsDictOf (strKind prog w) kvs) (hz : kvs.length ≤ 1000)
    (hQ : ∀ h' t' o', o'.IsDictOf (strKind prog w) (stored kvs x v) → St g L h' m (gl o') → Q () (sg s₀ h' t')) : wpAny (model prog w) A (setItem (.ref d) (.str x tk) v) Q E (sg s₀ h t) :=
  wpAny_setItem_pairs (s := sg s₀ h t) (hsz := by rw [sizeLine_eq]; omega) (strKind_is prog w x tk) (dictOf_at S U.mem hd) fun h' hmm hs => by
    obtain ⟨o', ho', hd'⟩ := Heap.dictOf_iff.mp hmm
    exact hQ h' _ o' hd' (S.put U hs ho')
-- lists of ints
theorem r_neints {a b : Addr} {xs ys : List Value} {ns ms : List Int} {j k : Nat} (C : Fx K A n g env L) (hn : n ≤ 100) (S : St g L h m l) (ha : (a, listOf xs.toArray j) ∈ l) (hb : (b, listOf ys.toArray k) ∈ l) (hi : IntsAre xs ns) (hj : IntsAre ys ms)
    (hQ : Q (.bool (!decide (ns = ms))) (sg s₀ h t)) : wpAny (model prog w) A (compareOp .NotEq (.ref a) (.ref b)) Q E (sg s₀ h t) :=
  ke_ne_ints (s := sg s₀ h t) ⟨_, S.get ha, rfl, _, rfl⟩ ⟨_, S.get hb, rfl, _, rfl⟩ hi hj (by have := C.uni; show _ < 9900; omega) hQ
theorem r_deckset {d : Addr} {o : Obj} {a b v : Value} {tk : Tok} {Q : Unit → Shared → Prop} (S : St g L h m l) (U : Spot d o l gl) (hd : o.IsDictOf (strKind prog w) [(Str.ofString "cells", a), (Str.ofString "mixed", b)])
    (hQ : ∀ h' t' o', o'.IsDictOf (strKind prog w) [(Str.ofString "cells", a), (Str.ofString "mixed", v)] → St g L h' m (gl o') → Q () (sg s₀ h' t')) : wpAny (model prog w) A (setItem (.ref d) (.str (Str.ofString "mixed") tk) v) Q E (sg s₀ h t) :=
  r_dset S U hd (Nat.le_of_ble_eq_true rfl) fun h' t' o' hd' => hQ h' t' o' (by
    have e : stored [(Str.ofString "cells", a), (Str.ofString "mixed", b)] (Str.ofString "mixed") v = [(Str.ofString "cells", a), (Str.ofString "mixed", v)] := by
      have h1 : ¬ (Str.ofString "cells" = Str.ofString "mixed") := by decide
      simp [stored, h1]
    rwa [e] at hd')
theorem r_popInts {D : Addr} {vs : List Value} {ns : List Int} {k : Nat} (S : St g L h m l) (U : Spot D (listOf vs.toArray k) l gl) (hi : IntsAre vs ns) (hne : ns ≠ []) (hz : vs.length ≤ 900)
    (hQ : ∀ i ti vs' ns' k' h' t', IntsAre vs' ns' → vs'.length ≤ vs.length → St g L h' m (gl (listOf vs'.toArray k')) → Q (.int i ti) (sg s₀ h' t')) : wpAny (model prog w) A (call (.builtin "list.pop") [.ref D]) Q E (sg s₀ h t) := by
  have hl := hi.length
  have h0 : 0 < vs.length := by
    cases ns with
    | nil => exact absurd rfl hne
    | cons _ _ => rw [hl]; simp
  obtain ⟨y, ti, e, rfl, hi'⟩ := kpa_ints hi h0
  rw [e] at U
  exact r_pop S U (by rw [List.length_dropLast]; omega) fun h' t' S' => hQ _ _ _ _ _ h' t' hi' (by rw [List.length_dropLast]; omega) S'
end

/-- the deck: its dict, and the list of its cells -/
structure Deck (prog : Program) (w : World) (od oc : Obj) (c : Addr) : Prop where
  is : ∃ (x : Int) (tx : Tok) (vs : List Value) (ns : List Int) (k : Nat), od.IsDictOf (strKind prog w) [(Str.ofString "cells", .ref c), (Str.ofString "mixed", .int x tx)] ∧
    0 ≤ x ∧ x < 2147483647 ∧ oc = listOf vs.toArray k ∧ IntsAre vs ns ∧ vs.length ≤ 40
end Mine

namespace Mine

theorem mem_fst {p : Addr × Obj} {l : List (Addr × Obj)} {a : Addr} (h : p ∈ l) (e : p.1 = a) : a ∈ l.map (·.1) := e ▸ List.mem_map_of_mem (f := fun q : Addr × Obj => q.1) h

/-- what a loop's turn comes to -/
noncomputable def Turn (s₀ : Shared) (g : Heap) (L I : Addr) (o : Obj) (J : (Str → Option Value) → List (Addr × Obj) → Prop) (Q : Flow → Shared → Prop) (f : Flow) (s' : Shared) : Prop := match f with
  | .ret v => Q (.ret v) s'
  | .brk => Q .next s'
  | _ => ∃ h' t' m' l', s' = sg s₀ h' t' ∧ St g L h' m' ((I, o) :: l') ∧ J m' l'
theorem turn_next {s₀ : Shared} {g h : Heap} {L I : Addr} {o : Obj} {J : (Str → Option Value) → List (Addr × Obj) → Prop} {Q : Flow → Shared → Prop} {t : Nat} {m : Str → Option Value} {l l' : List (Addr × Obj)}
    (S : St g L h m l) (p : ((I, o) :: l').Perm l) (hJ : J m l') : Turn s₀ g L I o J Q .next (sg s₀ h t) := ⟨_, _, _, _, rfl, S.perm p, hJ⟩
theorem turn_sub {s₀ : Shared} {g h : Heap} {L I : Addr} {o : Obj} {J : (Str → Option Value) → List (Addr × Obj) → Prop} {Q : Flow → Shared → Prop} {t : Nat} {m : Str → Option Value} {l : List (Addr × Obj)}
    (l' : List (Addr × Obj)) (S : St g L h m l) (hs : ((I, o) :: l').Sublist l) (hJ : J m l') : Turn s₀ g L I o J Q .next (sg s₀ h t) :=
  ⟨_, _, _, _, rfl, S.sub (fun _ hp => hs.subset hp) ((hs.map _).nodup S.D), hJ⟩

section
variable {prog : Program} {w : World} {K : Frag} {A : Around} {n : Nat} {g h : Heap} {env : Env} {L : Addr} {m : Str → Option Value} {l : List (Addr × Obj)} {s₀ : Shared} {t : Nat}
variable {cn : Str} {cs : Scope} {fa : Addr} {ccd : Value} {cl : List (Str × Addr)}

theorem loopAt {I : Addr} {fp : List Addr} {k : Nat} {P : Nat → Value → Prop} {Z : Nat → Heap → Prop} {o : Obj} {x : Str} {body : List Stmt} {Q : Flow → Shared → Prop} {E : Value → Shared → Prop}
    (he : env = envX cn cs L fa ccd cl) (W : Walks prog w A I fp [I] k P Z) (hst : Z 0 h) (hI : I ∈ fp) (hlive : ∀ i h, Z i h → ∃ o, h.get? I = some o) (hLf : L ∉ fp) (S : St g L h m ((I, o) :: l)) (J : Nat → (Str → Option Value) → List (Addr × Obj) → Prop) (hj : J 0 m l)
    (hfix : ∀ b ∈ fp, b ≠ I → g.get? b = none → ∃ ob, ∀ i m l, J i m l → (b, ob) ∈ l)
    (turn : ∀ i v m₁ l₁ h₁ t₁ o₁, i < k → P i v → J i m₁ l₁ → St g L h₁ (upd m₁ x v) ((I, o₁) :: l₁) →
      wpAny (model prog w) A (execs body env) (Turn s₀ g L I o₁ (J (i + 1)) Q) E (sg s₀ h₁ t₁))
    (done : ∀ h' t' m' l', St g L h' m' l' → J k m' l' → Q .next (sg s₀ h' t')) : LoopAtV prog w A g env x body Q E (.ref I) (sg s₀ h t) := by
  have hL : env.locals = L := by subst he; rfl
  have gI : g.get? I = none := (S.N (I, o) (.head _)).2.2
  have D := S.D
  rw [List.map_cons, List.nodup_cons] at D
  refine ⟨I, fp, [I], k, P, Z, m, l, fun i m l => (l.map (·.1)).Nodup ∧ J i m l, rfl, W, hL ▸ hLf, fun b hb => by rw [List.mem_singleton.mp hb]; exact gI, fun p hp => ?_, hst, hL ▸ S.F, hL ▸ S.drop.N, ⟨D.2, hj⟩, ?_, ?_⟩
  · intro q
    exact D.1 (mem_fst hp (List.mem_singleton.mp q))
  · rintro i v m₁ l₁ s₁ own ⟨h₁, t₁, rfl⟩ hi hP ⟨hD, hJ⟩ hoff hfp hown hall hZ F N
    rw [hL] at F N ⊢
    have oI : ∃ oI, h₁.get? I = some oI ∧ (I, oI) ∈ own := by
      obtain ⟨oI, q⟩ := hlive _ _ hZ
      exact ⟨oI, q, hall I hI gI oI q⟩
    obtain ⟨o₁, ho₁, hm₁⟩ := oI
    have S₁ : St g L h₁ (upd m₁ x v) ((I, o₁) :: l₁) := ⟨F, fun p hp => N p (by
      rcases List.mem_cons.mp hp with rfl | hp
      · exact List.mem_append_left _ hm₁
      · exact List.mem_append_right _ hp), by
        rw [List.map_cons, List.nodup_cons]
        refine ⟨fun q => ?_, hD⟩
        obtain ⟨p, hp, e⟩ := List.mem_map.mp q
        exact hoff p hp (by rw [e]; exact .head _)⟩
    refine wpAny_mono (turn i v m₁ l₁ h₁ t₁ o₁ hi hP hJ S₁) (fun f s' hf => ?_) fun _ _ x => x
    have fin : (∃ h' t' m' l', s' = sg s₀ h' t' ∧ St g L h' m' ((I, o₁) :: l') ∧ J (i + 1) m' l') → LoopStepU g L [I] own (fun m l => (l.map (·.1)).Nodup ∧ J (i + 1) m l) (sg s₀ h₁ t₁) .next s' := by
      rintro ⟨h', t', m', l', rfl, S', hJ'⟩
      have D' := S'.D
      rw [List.map_cons, List.nodup_cons] at D'
      refine ⟨rfl, h', t', m', l', rfl, S'.F, fun p hp => ?_, fun p hp q => ?_, D'.2, hJ'⟩
      · rcases List.mem_append.mp hp with hp | hp
        · have g1 := N p (List.mem_append_left _ hp)
          by_cases e : p.1 = I
          · have : p = (I, o₁) := by
              have a1 := hown p hp
              have a2 : h₁.get? p.1 = some p.2 := a1
              rw [e, ho₁] at a2
              exact Prod.ext e (Option.some.inj a2).symm
            rw [this]
            exact S'.N _ (.head _)
          · obtain ⟨ob, hob⟩ := hfix p.1 (hfp p hp) e g1.2.2
            have a1 := hob i m₁ l₁ hJ
            have a2 := (N _ (List.mem_append_right own a1)).1
            have a3 : h₁.get? p.1 = some p.2 := hown p hp
            have : p.2 = ob := by
              have a4 : h₁.get? p.1 = some ob := a2
              rw [a3] at a4
              exact Option.some.inj a4
            have a5 := S'.N _ (.tail _ (hob (i + 1) m' l' hJ'))
            rw [← this] at a5
            exact a5
        · exact S'.N _ (.tail _ hp)
      · exact D'.1 (mem_fst hp (List.mem_singleton.mp q))
    cases f with
    | ret v => exact hf
    | brk => exact hf
    | next => exact fin hf
    | cont => exact fin hf
  · rintro h' t' m' l' F N _ ⟨hD, hJ⟩
    rw [hL] at F N
    exact done h' t' m' l' ⟨F, N, hD⟩ hJ

/-- a loop over a range, by what holds of the turn's number, the frame and the ledger -/
theorem iter_range {r : Addr} {k : Nat} {ta tb tc : Tok} {x : Str} {body : List Stmt} {Q : Flow → Shared → Prop} {E : Value → Shared → Prop} (J : Nat → (Str → Option Value) → List (Addr × Obj) → Prop)
    (he : env = envX cn cs L fa ccd cl) (hh : A.handled = none) (hr : IsRange h r 0 (k : Int) 1 ta tb tc) (hk : k < 1000) (S : St g L h m l) (hj : J 0 m l)
    (turn : ∀ i v m₁ l₁ h₁ t₁ I o₁, i < k → (∃ tk, v = .int (i : Int) tk) → J i m₁ l₁ → St g L h₁ (upd m₁ x v) ((I, o₁) :: l₁) →
      wpAny (model prog w) A (execs body env) (Turn s₀ g L I o₁ (J (i + 1)) Q) E (sg s₀ h₁ t₁))
    (done : ∀ h' t' m' l', St g L h' m' l' → J k m' l' → Q .next (sg s₀ h' t')) :
    wpAny (model prog w) A (pyIter (.ref r)) (fun it s₂ => LoopAtV prog w A g env x body Q E it s₂) E (sg s₀ h t) := by
  have hn : Builtin.Range.rangeSize 0 (k : Int) 1 = (k : Int) := by rw [rangeSize_nat]; omega
  refine wpAny_pyIter_range (s := sg s₀ h t) hr (small_one (by omega) (by omega) (by omega) (by omega)) ?_
  have Lh : L < h.objs.size := S.F.ns.lt
  refine loopAt (o := _) (k := k) (s₀ := s₀) (h := h.push _) (t := t) he (Walks.range hh h.objs.size 0 1 k) ?_ (.head _) (fun i h z => ⟨_, z⟩) (fun q => ?_) (S.push _) J hj (fun b hb hne => ?_) (fun i v m₁ l₁ h₁ t₁ o₁ hi hP hJ S₁ => ?_) done
  · show IsRangeIter _ _ _ _ _
    rw [hn]
    simpa using Heap.get?_push_size _ rfl
  · exact absurd Lh (List.mem_singleton.mp q ▸ Nat.lt_irrefl _)
  · exact absurd (List.mem_singleton.mp hb) hne
  · refine turn i v m₁ l₁ h₁ t₁ _ o₁ hi ?_ hJ S₁
    obtain ⟨tk, rfl⟩ := hP
    exact ⟨tk, by rw [Int.mul_one, Int.zero_add]⟩
theorem r_range {k : Int} {tk : Tok} {Q : Value → Shared → Prop} {E : Value → Shared → Prop} (S : St g L h m l) (hQ : ∀ r h' t' ta tb tc, IsRange h' r 0 k 1 ta tb tc → St g L h' m l → Q (.ref r) (sg s₀ h' t')) :
    wpAny (model prog w) A (call (.type "range") [.int k tk]) Q E (sg s₀ h t) :=
  range1_rows (s := sg s₀ h t) S.F S.N fun h' tk ta tb tc hr F N _ => hQ _ h' tk ta tb tc hr ⟨F, N, S.D⟩

/-- a loop over a list that stands on the ledger -/
theorem iter_list {D : Addr} {items : Array Value} {c : Nat} {x : Str} {body : List Stmt} {Q : Flow → Shared → Prop} {E : Value → Shared → Prop} (J : Nat → (Str → Option Value) → List (Addr × Obj) → Prop)
    (he : env = envX cn cs L fa ccd cl) (hh : A.handled = none) (S : St g L h m l) (hfix : ∀ i m l, J i m l → (D, listOf items c) ∈ l) (hj : J 0 m l)
    (turn : ∀ i v m₁ l₁ h₁ t₁ I o₁, i < items.size → items[i]? = some v → J i m₁ l₁ → St g L h₁ (upd m₁ x v) ((I, o₁) :: l₁) →
      wpAny (model prog w) A (execs body env) (Turn s₀ g L I o₁ (J (i + 1)) Q) E (sg s₀ h₁ t₁))
    (done : ∀ h' t' m' l', St g L h' m' l' → J items.size m' l' → Q .next (sg s₀ h' t')) :
    wpAny (model prog w) A (pyIter (.ref D)) (fun it s₂ => LoopAtV prog w A g env x body Q E it s₂) E (sg s₀ h t) := by
  have hm := hfix 0 m l hj
  have hl : h.IsList D items := ⟨_, S.get hm, rfl, c, rfl⟩
  refine wpAny_pyIter_list (s := sg s₀ h t) hl ?_
  have Lh : L < h.objs.size := S.F.ns.lt
  have Dh : D < h.objs.size := Heap.lt_size (S.get hm)
  have hne : D ≠ h.objs.size := Nat.ne_of_lt Dh
  refine loopAt (o := _) (k := items.size) (s₀ := s₀) (h := h.push _) (t := t) he (Walks.list hh h.objs.size D hne items) ?_ (.head _) (fun i h z => ?_) (fun q => ?_) (S.push _) J hj (fun b hb hne' _ => ?_) (fun i v m₁ l₁ h₁ t₁ o₁ hi hP hJ S₁ => turn i v m₁ l₁ h₁ t₁ _ o₁ hi hP hJ S₁) done
  · exact ⟨⟨_, Heap.get?_push_size _ rfl, rfl, rfl⟩, hl.at fun o e => Heap.get?_push_of_some _ e⟩
  · obtain ⟨⟨o, ho, _⟩, _⟩ := z
    exact ⟨o, ho⟩
  · rcases List.mem_cons.mp q with e | q
    · exact absurd Lh (e ▸ Nat.lt_irrefl _)
    · exact (S.N _ hm).2.1 (List.mem_singleton.mp q).symm
  · rcases List.mem_cons.mp hb with e | hb
    · exact absurd e hne'
    · rw [List.mem_singleton.mp hb]
      exact ⟨_, hfix⟩
end
end Mine

namespace Mine

section
variable {prog : Program} {w : World} {K : Frag} {A : Around} {E : Value → Shared → Prop} {n : Nat} {g h : Heap} {env : Env} {L : Addr} {m : Str → Option Value} {l : List (Addr × Obj)} {s₀ : Shared} {t : Nat}
variable {cn : Str} {cs : Scope} {fa : Addr} {ccd : Value} {cl : List (Str × Addr)}

theorem St.pushed (S : St g L h m l) {p : Addr × Obj} {h' : Heap} (F : Fr g L h' m) (N : News g L h' (p :: l)) (hl : ∀ q ∈ l, q.1 < p.1) : St g L h' m (p :: l) := ⟨F, N, by
  rw [List.map_cons, List.nodup_cons]
  refine ⟨fun q => ?_, S.D⟩
  obtain ⟨a, ha, e⟩ := List.mem_map.mp q
  exact absurd (hl a ha) (by rw [e]; exact Nat.lt_irrefl _)⟩

-- slices of lists
theorem r_slice {D : Addr} {c : Nat} {its : Array Value} {zs : List Value} {vl vu : Value} {lo hi : Option Int} {value slice : Expr} {Q : Value → Shared → Prop} (S : St g L h m l) (hm : (D, listOf its c) ∈ l) (pl : IsPart vl lo) (pu : IsPart vu hi) (e : kms_pick its.toList lo hi = zs)
    (hs : subscripted slice false (.ref D) (.ref h.objs.size) = operate [.ref h.objs.size, .ref D] (getItem (.ref D) (.ref h.objs.size))) (ht : ∀ r, letTemporaryGo value (.ref D) r = pure ()) (hz : its.size ≤ 1000)
    (hQ : ∀ d h' t', St g L h' m ((d, listOf zs.toArray 0) :: l) → Q (.ref d) (sg s₀ h' t')) :
    wpAny (model prog w) A (subscriptTail value slice (.ref D) (.ref h.objs.size)) Q E (sg s₀ (h.push { cls := .type "slice", data := .fields #[vl, vu, .none] }) t) :=
  kms_slice_lit (s := sg s₀ h t) S.F S.N ⟨_, S.get hm, rfl, c, rfl⟩ pl pu e (fun d h' F' N' l1 => hQ d h' _ (S.pushed F' N' l1)) hs ht (by rw [sizeLine_eq]; omega)
theorem r_sliceRev {D : Addr} {c : Nat} {its : Array Value} {zs : List Value} {vk : Value} {ops : List Value} {value slice : Expr} {Q : Value → Shared → Prop} (S : St g L h m l) (hm : (D, listOf its c) ∈ l) (pk : IsPart vk (some (-1))) (e : its.toList.reverse = zs)
    (hs : subscripted slice false (.ref D) (.ref h.objs.size) = operate ops (getItem (.ref D) (.ref h.objs.size))) (ht : ∀ r, letTemporaryGo value (.ref D) r = pure ()) (hz : its.size ≤ 1000)
    (hQ : ∀ d h' t', St g L h' m ((d, listOf zs.toArray 0) :: l) → Q (.ref d) (sg s₀ h' t')) :
    wpAny (model prog w) A (subscriptTail value slice (.ref D) (.ref h.objs.size)) Q E (sg s₀ (h.push { cls := .type "slice", data := .fields #[.none, .none, vk] }) t) :=
  krv_lit (s := sg s₀ h t) S.F S.N ⟨_, S.get hm, rfl, c, rfl⟩ pk e (fun d h' F' N' l1 => hQ d h' _ (S.pushed F' N' l1)) hs ht (by rw [sizeLine_eq]; omega)
/-- a slice of a list that is older than the frame -/
theorem r_sliceOld {D : Addr} {its : Array Value} {zs : List Value} {vl vu : Value} {lo hi : Option Int} {value slice : Expr} {Q : Value → Shared → Prop} (S : St g L h m l) (hm : g.IsList D its) (pl : IsPart vl lo) (pu : IsPart vu hi) (e : kms_pick its.toList lo hi = zs)
    (hs : subscripted slice false (.ref D) (.ref h.objs.size) = operate [.ref h.objs.size, .ref D] (getItem (.ref D) (.ref h.objs.size))) (ht : ∀ r, letTemporaryGo value (.ref D) r = pure ()) (hz : its.size ≤ 1000)
    (hQ : ∀ d h' t', St g L h' m ((d, listOf zs.toArray 0) :: l) → Q (.ref d) (sg s₀ h' t')) :
    wpAny (model prog w) A (subscriptTail value slice (.ref D) (.ref h.objs.size)) Q E (sg s₀ (h.push { cls := .type "slice", data := .fields #[vl, vu, .none] }) t) :=
  kms_slice_lit (s := sg s₀ h t) S.F S.N (hm.at fun o e => S.old e) pl pu e (fun d h' F' N' l1 => hQ d h' _ (S.pushed F' N' l1)) hs ht (by rw [sizeLine_eq]; omega)

-- a for over a name
theorem r_for {x : Str} {px pos : Pos} {iter : Expr} {body : List Stmt} {Q : Flow → Shared → Prop} (he : env = envX cn cs L fa ccd cl) (hk : cs.kind = .function) (hx : cs.names.lookup x = some .local) (hs : ∀ x, foldedSetIterable iter env x = pure x) (g : Heap)
    (hQ : wpAny (model prog w) A (eval iter env) (fun xv s₁ => wpAny (model prog w) A (pyIter xv) (fun it s₂ => LoopAtV prog w A g env x body Q (fun _ _ => False) it s₂) (fun _ _ => False) s₁) (fun _ _ => False) (sg s₀ h t)) :
    wpAny (model prog w) A (exec (.For (.Name x px) iter body [] pos) env) Q (fun _ _ => False) (sg s₀ h t) :=
  For_invV g (by subst he; exact hx) (by subst he; show (cs.kind == .class || _) = false; rw [hk]; rfl) hQ hs PassesOwn.never

/-- what a comprehension over a list asks of its source and its element -/
inductive CompB (prog : Program) (w : World) (A : Around) (g : Heap) (env : Env) (L : Addr) (m : Str → Option Value) (s₀ : Shared) (elt : Expr) (x : Str) (scope : Scope) (ccl : List (Str × Addr)) (F : Value → Value → Prop) (Q : Value → Shared → Prop) (xv : Value) (s₁ : Shared) : Prop
  | mk (D : Addr) (vs : List Value) (c : Nat) (h₁ : Heap) (t₁ : Nat) (l₁ : List (Addr × Obj)) (e1 : xv = .ref D) (e2 : s₁ = sg s₀ h₁ t₁) (S : St g L h₁ m l₁) (hm : (D, listOf (List.toArray vs) c) ∈ l₁) (hz : vs.length ≤ 1000)
    (helt : ∀ s₀' C h' t' m' v, v ∈ vs → (∀ b o, h₁.get? b = some o → h'.get? b = some o) → h'.Ns C m' → m' x = some v →
      wpAny (model prog w) A (eval elt (compEnvC scope ccl C env)) (fun y s₄ => F v y ∧ Keeps (sg s₀' h' t') s₄) (fun _ _ => False) (sg s₀' h' t'))
    (hq : ∀ R h' t' ys k, Paired F vs ys → St g L h' m ((R, listOf (List.toArray ys) k) :: l₁) → Q (.ref R) (sg s₀ h' t')) : CompB prog w A g env L m s₀ elt x scope ccl F Q xv s₁
/-- a comprehension over a list of the ledger, no test, whose element makes nothing that stays -/
theorem r_comp {elt iter : Expr} {x : Str} {px pos : Pos} {scope : Scope} {ccl : List (Str × Addr)} {Q : Value → Shared → Prop} (F : Value → Value → Prop) (C₀ : Fx K A n g env L) (S₀ : St g L h m l)
    (hclos : closureFor scope env = pure ccl) (hcell : ∀ y ∈ scope.names, y.2 ≠ .cell) (hkind : scope.kind = .function)
    (hnames : ∀ y ∈ scope.names, y.2 = .local → scope.names.lookup y.1 = some .local) (hx : scope.names.lookup x = some .local) (hs : ∀ x, foldedSetIterable iter env x = pure x)
    (hQ : wpAny (model prog w) A (eval iter env) (CompB prog w A g env L m s₀ elt x scope ccl F Q) E (sg s₀ h t)) :
    wpAny (model prog w) A (eval (.ListComp elt [⟨.Name x px, iter, [], 0⟩] scope pos) env) Q E (sg s₀ h t) := by
  refine wpAny_ListComp_free (fun _ => true) F hclos hcell hkind hnames hx (wpAny_mono hQ (fun xv s₁ hq => ?_) fun _ _ e => e) hs
  obtain ⟨D, vs, c, h₁, t₁, l₁, rfl, rfl, S, hm, hz, helt, hq⟩ := hq
  have hl : h₁.IsList D vs.toArray := ⟨_, S.get hm, rfl, c, rfl⟩
  have Dh : D < h₁.objs.size := Heap.lt_size (S.get hm)
  have grow : ∀ (it : Obj) b o, h₁.get? b = some o → (h₁.push it).get? b = some o := fun it b o e => Heap.get?_push_of_some _ e
  have noI : ∀ b o, h₁.get? b = some o → b ∉ [h₁.objs.size] := fun b o e q => absurd (Heap.lt_size e) (by rw [List.mem_singleton.mp q]; exact Nat.lt_irrefl _)
  refine wpAny_pyIter_list (s := sg s₀ h₁ t₁) hl ⟨h₁.objs.size, _, _, vs.length, _, _, rfl, by have := Walks.list (prog := prog) (w := w) C₀.hnd h₁.objs.size D (Nat.ne_of_lt Dh) vs.toArray; rwa [List.size_toArray] at this, by rw [sizeLine_eq]; omega, ?_, ?_, ⟨?_, ?_⟩, ?_⟩
  · exact ⟨⟨_, Heap.get?_push_size _ rfl, rfl, rfl⟩, hl.at fun o e => Heap.get?_push_of_some _ e⟩
  · intro b hb
    show b < (h₁.push _).objs.size
    rw [Heap.size_push]
    rcases List.mem_cons.mp hb with e | hb
    · rw [e]; exact Nat.lt_succ_self _
    · rw [List.mem_singleton.mp hb]; exact Nat.lt_succ_of_lt Dh
  · intro C i v s₃ m₃ E' _ _ _ _ _ _
    exact wpAny_pure ⟨rfl, s₃.heap, s₃.toks, rfl, fun _ _ e => e⟩
  · intro C i v s₃ m₃ E' _ hP _ hn hm' hk htk
    have hv : v ∈ vs := by
      have hP' : vs[i]? = some v := by simpa using hP
      exact List.mem_of_getElem? hP'
    exact wpAny_noRaise (helt s₃ C s₃.heap s₃.toks m₃ v hv (fun b o e => hk b o (noI b o e) (grow _ b o e)) hn hm')
  · intro D' h' tk ys us hD' hl' hpl hlen hP hF hk
    obtain ⟨k, hR⟩ := hpl
    have e : us = vs := by
      refine List.ext_getElem? fun j => ?_
      by_cases hj : j < us.length
      · have := hP j us[j] (by simp [hj])
        have h2 : vs[j]? = some us[j] := by simpa using this
        rw [h2]; simp [hj]
      · rw [List.getElem?_eq_none (Nat.le_of_not_lt hj), List.getElem?_eq_none (by omega)]
    have k0 : ∀ b o, h₁.get? b = some o → h'.get? b = some o := fun b o e => hk b o (noI b o e) (grow _ b o e)
    have hF' : Paired F vs ys.toList := by
      have e2 : us.filter (fun _ => true) = us := List.filter_eq_self.mpr fun _ _ => rfl
      rw [e2, e] at hF
      exact hF
    have hD2 : h₁.get? D' = none := by
      cases q : h₁.get? D' with
      | none => rfl
      | some o =>
        have : (h₁.push _).get? D' = none := hD'
        rw [grow _ D' o q] at this
        cases this
    have hDL : D' ≠ L := fun q => by
      obtain ⟨oL, _, _, hL, _⟩ := S.F.ns
      rw [q, hL] at hD2
      cases hD2
    refine hq D' h' tk ys.toList k hF' ⟨S.F.keeps k0, fun p hp => ?_, ?_⟩
    · rcases List.mem_cons.mp hp with rfl | hp
      · refine ⟨by rw [Array.toArray_toList]; exact hR, hDL, ?_⟩
        cases q : g.get? D' with
        | none => rfl
        | some o => rw [S.old q] at hD2; cases hD2
      · exact (S.grow k0).N p hp
    · rw [List.map_cons, List.nodup_cons]
      refine ⟨fun q => ?_, S.D⟩
      obtain ⟨p, hp, e⟩ := List.mem_map.mp q
      have := S.get (a := p.1) (o := p.2) hp
      rw [e, hD2] at this
      cases this

theorem rc_local {scope : Scope} {ccl : List (Str × Addr)} {Cm : Addr} {env : Env} {x : Str} {pos : Pos} {v : Value} {Q : Value → Shared → Prop} (hn : h.Ns Cm m) (hv : m x = some v) (hk : (compEnvC scope ccl Cm env).scope.kind = .function) (hl : (compEnvC scope ccl Cm env).kindOf x = some .local) (hd : (x == ("__debug__" : Str)) = false) (hQ : Q v (sg s₀ h t)) :
    wpAny (model prog w) A (eval (.Name x pos) (compEnvC scope ccl Cm env)) Q E (sg s₀ h t) := wpAny_Name (wpAny_loadName_local hk hl hn hv hQ) hd
theorem rc_built {scope : Scope} {ccl : List (Str × Addr)} {Cm : Addr} {x : Str} {pos : Pos} {v : Value} {Q : Value → Shared → Prop} (C : Fx K A n g env L) (k : ∀ b o, g.get? b = some o → h.get? b = some o) (e : nsIn K mainGlobals x = some none) (hv : bootBuiltins x = some v) (hn : x ≠ "__name__")
    (hk : (compEnvC scope ccl Cm env).scope.kind = .function) (hx : (compEnvC scope ccl Cm env).kindOf x = some .globalImplicit) (hg : env.globals = mainGlobals) (hb : env.builtins = builtinsNs) (hd : (x == ("__debug__" : Str)) = false) (hQ : Q v (sg s₀ h t)) :
    wpAny (model prog w) A (eval (.Name x pos) (compEnvC scope ccl Cm env)) Q E (sg s₀ h t) := by
  obtain ⟨p, loose, mg, mb, T⟩ := C.T
  exact Name_function_global hk hx (loadGlobal_builtin (env := compEnvC scope ccl Cm env) (show h.Ns env.globals mg from hg ▸ T.g.keeps k) (mg_none_of C.X T.g e) (show h.Ns env.builtins mb from hb ▸ T.b.keeps k) ((T.builtins x hn).trans hv) hQ) hd
theorem rc_glob {scope : Scope} {ccl : List (Str × Addr)} {Cm : Addr} {x : Str} {pos : Pos} {v : Value} {Q : Value → Shared → Prop} (C : Fx K A n g env L) (k : ∀ b o, g.get? b = some o → h.get? b = some o) (e : nsIn K mainGlobals x = some (some v))
    (hk : (compEnvC scope ccl Cm env).scope.kind = .function) (hx : (compEnvC scope ccl Cm env).kindOf x = some .globalImplicit) (hg : env.globals = mainGlobals) (hd : (x == ("__debug__" : Str)) = false) (hQ : Q v (sg s₀ h t)) :
    wpAny (model prog w) A (eval (.Name x pos) (compEnvC scope ccl Cm env)) Q E (sg s₀ h t) := by
  obtain ⟨p, loose, mg, mb, T⟩ := C.T
  exact Name_function_global hk hx (loadGlobal_global (env := compEnvC scope ccl Cm env) (show h.Ns env.globals mg from hg ▸ T.g.keeps k) (mg_of C.X T.g e) hQ) hd

theorem r_assignT {elts : List Expr} {k : Nat} {tpos : Pos} {value : Expr} {pos : Pos} {Q : Flow → Shared → Prop} (he : env = envX cn cs L fa ccd cl)
    (hs : swapsWithSole [.Tuple elts k tpos] value pos.line (envX cn cs L fa ccd cl) = pure false) (hw : swappedStores [.Tuple elts k tpos] value (envX cn cs L fa ccd cl) = pure none)
    (hQ : wpAny (model prog w) A (eval value env) (fun v s₁ => wpAny (model prog w) A (assign (.Tuple elts k tpos) env v) (fun _ => Q .next) E s₁) E (sg s₀ h t)) :
    wpAny (model prog w) A (exec (.Assign [.Tuple elts k tpos] value pos) env) Q E (sg s₀ h t) := by subst he; exact Assign_Tuple hQ hs hw
theorem r_assignN {x : Str} {xp : Pos} {value : Expr} {pos : Pos} {Q : Flow → Shared → Prop} (he : env = envX cn cs L fa ccd cl)
    (hs : swapsWith value (some (.Name x xp)) pos.line (envX cn cs L fa ccd cl) = pure false)
    (hQ : wpAny (model prog w) A (eval value env) (fun v s₁ => wpAny (model prog w) A (storeName env x v) (fun _ => Q .next) E s₁) E (sg s₀ h t)) :
    wpAny (model prog w) A (exec (.Assign [.Name x xp] value pos) env) Q E (sg s₀ h t) := by subst he; exact wpAny_Assign_Name hQ hs
theorem r_assignTS {elts : List Expr} {k : Nat} {tpos : Pos} {value : Expr} {pos : Pos} {names : List Str} {Q : Flow → Shared → Prop} (he : env = envX cn cs L fa ccd cl)
    (hs : swapsWithSole [.Tuple elts k tpos] value pos.line (envX cn cs L fa ccd cl) = pure false) (hw : swappedStores [.Tuple elts k tpos] value (envX cn cs L fa ccd cl) = pure (some names))
    (hQ : wpAny (model prog w) A (eval value env) (fun v s₁ => wpAny (model prog w) A (unpackItems v names.length none) (fun items s₂ =>
      wpAny (model prog w) A (assignInOrder (names.reverse.map fun n => bindName env n) items.reverse) (fun _ => Q .next) E s₂) E s₁) E (sg s₀ h t)) :
    wpAny (model prog w) A (exec (.Assign [.Tuple elts k tpos] value pos) env) Q E (sg s₀ h t) := by subst he; exact Assign_Tuple_swapped hQ hs hw
theorem r_unpackItems {T : Addr} {items : Array Value} {c k : Nat} {Q : List Value → Shared → Prop} (C : Fx K A n g env L) (S : St g L h m l) (hm : (T, { cls := .type "tuple", data := .seq items c }) ∈ l) (hn : k = items.size)
    (hQ : ∀ h', St g L h' m l → Q items.toList (sg s₀ h' t)) : wpAny (model prog w) A (unpackItems (.ref T) k none) Q E (sg s₀ h t) :=
  unpackItemsN_ (s := sg s₀ h t) S.F S.N ⟨_, S.get hm, rfl, c, rfl⟩ C.hnd hn fun h' F N => hQ h' ⟨F, N, S.D⟩
theorem r_bindName {x : Str} {v : Value} {Q : Unit → Shared → Prop} (hQ : wpAny (model prog w) A (storeName env x v) Q E (sg s₀ h t)) : wpAny (model prog w) A (bindName env x v) Q E (sg s₀ h t) := wpAny_bindName hQ
theorem r_unpack {elts : List Expr} {k : Nat} {pos : Pos} {T : Addr} {items : Array Value} {c : Nat} {Q : Unit → Shared → Prop} (C : Fx K A n g env L) (S : St g L h m l) (hm : (T, { cls := .type "tuple", data := .seq items c }) ∈ l)
    (hn : (assignEach elts env).length = items.size) (hstar : (assignEach elts env).findIdx? (·.1) = none)
    (hQ : ∀ h', St g L h' m l → wpAny (model prog w) A (assignInOrder ((assignEach elts env).map (·.2)) items.toList) Q E (sg s₀ h' t)) :
    wpAny (model prog w) A (assign (.Tuple elts k pos) env (.ref T)) Q E (sg s₀ h t) :=
  assign_Tuple_tuple (s := sg s₀ h t) C.hnd ⟨_, S.get hm, rfl, c, rfl⟩ hn hstar fun h' hE => hQ h' (S.grow fun b o e => hE b o (Nat.ne_of_lt (Heap.lt_size e)) e)
theorem Fx.nolimit (C : Fx K A n g env L) : g.NoLimit := by
  obtain ⟨p, loose, mg, mb, T⟩ := C.T
  exact T.nolimit
/-- a dict display by strs -/
theorem r_dictS {keys : List (Option PySem.Expr)} {values : List PySem.Expr} {pos : Pos} {Q : Value → Shared → Prop} (C : Fx K A n g env L) (S : St g L h m l)
    (hk : strLits keys = true) (hall : keys.all (·.isSome) = true) (hl : keys.length = values.length) (h0 : keys ≠ []) (hlen : keys.length ≤ 15)
    (hQ : ∀ d h' o, o.IsDictOf (PySem.strKind prog w) [] → St g L h' m ((d, o) :: l) → wpAny (model prog w) A (evalPairs (pairTrees keys values env pos)) (fun vs s₁ => KdnMade prog w (PySem.strKind prog w) d Q vs s₁) E (sg s₀ h' t)) :
    wpAny (model prog w) A (eval (.Dict keys values pos) env) Q E (sg s₀ h t) :=
  kdn_str (s := sg s₀ h t) hk S.F S.N C.nolimit hall hl h0 hlen fun d h' o F' N' l1 _ hd => hQ d h' o hd (S.pushed F' N' l1)
theorem r_dictMade {vs : List (Value × Value)} {d : Addr} {o : Obj} {gl : Obj → List (Addr × Obj)} {Q : Value → Shared → Prop} (S : St g L h m l) (U : Spot d o l gl) (hd : o.IsDictOf (PySem.strKind prog w) []) (hk : allStrKeys vs = true) (hn : ((strPairs vs).map (·.1)).Nodup)
    (hQ : ∀ h' t' o', o'.IsDictOf (PySem.strKind prog w) (strPairs vs) → St g L h' m (gl o') → Q (.ref d) (sg s₀ h' t')) : KdnMade prog w (PySem.strKind prog w) d Q vs (sg s₀ h t) :=
  kdn_made_str (s := sg s₀ h t) S.F S.N (spot_updF U S.D) hd hk hn fun h' o' F' N' x => hQ h' _ o' x ⟨F', N', spot_nodup U S.D _⟩
end
end Mine

namespace Mine

/-! the dict of an object, as names and values -/
inductive KV : List DictEntry → List (Str × Value) → Prop
  | nil : KV [] []
  | cons {es r} (hsh : Int) (x : Str) (tk : Tok) (v : Value) : KV es r → KV (⟨hsh, .str x tk, v⟩ :: es) ((x, v) :: r)
noncomputable def Rec (o : Obj) (kvs : List (Str × Value)) : Prop := ∃ es k, o = dictOf es k ∧ KV es kvs
noncomputable def look (x : Str) : List (Str × Value) → Option Value
  | [] => none
  | (y, v) :: r => if y = x then some v else look x r
noncomputable def putR (x : Str) (v : Value) : List (Str × Value) → List (Str × Value)
  | [] => [(x, v)]
  | (y, u) :: r => if y = x then (y, v) :: r else (y, u) :: putR x v r
theorem isStr_eq (x y : Str) (t : Tok) : (Value.str x t).isStr y = decide (x = y) := by
  show (x == y) = _
  by_cases h : x = y
  · subst h; simp
  · simp [h]
theorem KV.noRef : ∀ {es kvs}, KV es kvs → es.any (·.refKey) = false := by
  intro es kvs h
  induction h with
  | nil => rfl
  | cons _ _ _ _ _ ih => rw [List.any_cons, ih]; rfl
theorem KV.get : ∀ {es kvs}, KV es kvs → ∀ x, getL x es = some (look x kvs) := by
  intro es kvs h x
  have key : (es.find? (·.key.isStr x)).map (·.val) = look x kvs := by
    induction h with
    | nil => rfl
    | @cons es r hsh y tk v h ih =>
      rw [List.find?_cons]
      simp only [isStr_eq]
      show _ = (if y = x then _ else _)
      by_cases e : y = x
      · simp [e]
      · simp only [e, decide_false, if_neg, not_false_iff]
        exact ih
  unfold getL
  cases q : es.find? (·.key.isStr x) with
  | some e =>
    rw [q] at key
    simp only [Option.map_some] at key
    simp [← key]
  | none =>
    rw [q] at key
    simp only [Option.map_none] at key
    simp [h.noRef, ← key]
theorem KV.putR : ∀ {es kvs}, KV es kvs → ∀ (x : Str) (hsh : Int) (tk : Tok) (v : Value), KV (putL x hsh (.str x tk) v es) (Mine.putR x v kvs) := by
  intro es kvs h x hsh tk v
  induction h with
  | nil => exact .cons hsh x tk v .nil
  | cons hs y ty u r ih =>
    simp only [putL, isStr_eq]
    show KV _ (if y = x then _ else _)
    by_cases e : y = x
    · rw [if_pos e, if_pos (decide_eq_true e)]
      exact .cons _ _ _ _ r
    · rw [if_neg e, if_neg (fun q => e (of_decide_eq_true q))]
      exact .cons _ _ _ _ ih
theorem KV.length : ∀ {es kvs}, KV es kvs → es.length = kvs.length := by
  intro es kvs h
  induction h with
  | nil => rfl
  | cons _ _ _ _ _ ih => exact congrArg (· + 1) ih

section
variable {prog : Program} {w : World} {K : Frag} {A : Around} {E : Value → Shared → Prop} {n : Nat} {g h : Heap} {env : Env} {L : Addr} {m : Str → Option Value} {l : List (Addr × Obj)} {s₀ : Shared} {t : Nat} {Q : Value → Shared → Prop} {gl : Obj → List (Addr × Obj)}
theorem r_getR {x C dx : Addr} {o : Obj} {name : Str} {expr : Bool} {v : Value} {attr : Option Value} {kvs : List (Str × Value)} (S : St g L h m l) (X : Fx K A n g env L) (h1 : (x, instObj C dx) ∈ l) (h2 : (dx, o) ∈ l) (ho : Rec o kvs) (hg : plainGet K C name = true) (hh : hasDictIn K C = true)
    (ha : findIn K (.ref C) name = some attr) (hn : noGet K attr = true) (hl : look name kvs = some v) (hv : handedIn v = true) (hQ : ∀ t', Q v (sg s₀ h t')) :
    wpAny (model prog w) A (getAttr (.ref x) name expr) Q E (sg s₀ h t) := by
  obtain ⟨es, k, rfl, hk⟩ := ho
  exact r_get S X.X h1 h2 hg hh ha hn (by rw [hk.get, hl]) hv hQ
theorem r_setR {x C dx : Addr} {o : Obj} {name : Str} {v : Value} {kvs : List (Str × Value)} {Q : Unit → Shared → Prop} (S : St g L h m l) (X : Fx K A n g env L) (h1 : (x, instObj C dx) ∈ l) (U : Spot dx o l gl) (ho : Rec o kvs)
    (hs : findIn K (.ref C) "__setattr__" = some (some (.builtin "object.__setattr__"))) (hp : plainOver K C = true) (ht : takerIn K C name = some none) (hh : hasDictIn K C = true) (hz : kvs.length ≤ 100)
    (hQ : ∀ h' t' o', Rec o' (putR name v kvs) → St g L h' m (gl o') → Q () (sg s₀ h' t')) : wpAny (model prog w) A (setAttr (.ref x) name v) Q E (sg s₀ h t) := by
  obtain ⟨es, k, rfl, hk⟩ := ho
  refine r_set S X.X h1 U hs hp ht hh (by rw [hk.get]; rfl) rfl ?_ fun h' t' S' => hQ h' t' _ ⟨_, _, rfl, hk.putR _ _ _ _⟩ S'
  rw [(hk.putR name _ _ v).length]
  have : ∀ kvs : List (Str × Value), (putR name v kvs).length ≤ kvs.length + 1 := by
    intro kvs
    induction kvs with
    | nil => exact Nat.le_refl _
    | cons p r ih =>
      obtain ⟨y, u⟩ := p
      show (if y = name then (y, v) :: r else (y, u) :: putR name v r).length ≤ r.length + 1 + 1
      by_cases e : y = name
      · rw [if_pos e]; exact Nat.le_succ _
      · rw [if_neg e]; exact Nat.succ_le_succ ih
  have := this kvs
  omega
theorem r_methR {x C dx f : Addr} {o : Obj} {name : Str} {pl : Sem Bool} {kvs : List (Str × Value)} {Q : Value × List Value → Shared → Prop} (S : St g L h m l) (X : Fx K A n g env L) (h1 : (x, instObj C dx) ∈ l) (h2 : (dx, o) ∈ l) (ho : Rec o kvs) (hg : plainGet K C name = true)
    (hf : findIn K (.ref C) name = some (some (.ref f))) (ht : isFn K (.ref f) = true) (hl : look name kvs = none) (hQ : Q (.ref f, [.ref x]) (sg s₀ h t)) : wpAny (model prog w) A (getMethod (.ref x) name pl) Q E (sg s₀ h t) := by
  obtain ⟨es, k, rfl, hk⟩ := ho
  exact r_meth S X.X h1 h2 hg hf ht (by rw [hk.get, hl]) hQ
end
theorem rec_nil : Rec (dictOf [] 0) [] := ⟨_, _, rfl, .nil⟩

/-! equality -/
set_option genInjectivity false in
structure EK (κ : Type) [DecidableEq κ] where
  is : Heap → κ → Value → Prop
  room : Nat
  inj : ∀ {h x y v}, is h x v → is h y v → x = y
  eq : ∀ {A s x y u v}, is s.heap x u → is s.heap y v → A.units + room < cLine → SeqAt.EqAt A s u v (decide (x = y))

noncomputable def bytesE : EK (List UInt8) where
  is := fun _ x v => ∃ t, v = .bytes x.toArray t
  room := 0
  inj := by
    rintro h x y v ⟨t, rfl⟩ ⟨u, e⟩
    injection e with e
    simpa using e
  eq := by
    rintro A s x y u v ⟨t, rfl⟩ ⟨t', rfl⟩ _ prog w E Q hQ
    refine eqBool_bytes ?_
    simpa using hQ
theorem paired_get {α β : Type} {F : α → β → Prop} : ∀ {xs : List α} {ys : List β}, Paired F xs ys → ∀ j (h : j < ys.length), ∃ x, xs[j]? = some x ∧ F x ys[j] := by
  intro xs ys p
  induction p with
  | nil => exact fun j h => absurd h (Nat.not_lt_zero _)
  | cons e r ih =>
    intro j
    cases j with
    | zero => exact fun _ => ⟨_, rfl, e⟩
    | succ j => exact fun h => ih j (Nat.lt_of_succ_lt_succ h)
theorem paired_inj {α β : Type} {F : α → β → Prop} (hF : ∀ x y b, F x b → F y b → x = y) : ∀ {xs ys : List α} {zs : List β}, Paired F xs zs → Paired F ys zs → xs = ys := by
  intro xs ys zs p
  induction p generalizing ys with
  | nil => intro h; cases h; rfl
  | cons e r ih => intro h; cases h with | cons e' r' => rw [hF _ _ _ e e', ih r']
theorem all_eq {κ : Type} [DecidableEq κ] (xs ys : List κ) : ((List.range (min xs.length ys.length)).all (fun j => decide (xs[j]? = ys[j]?)) && (xs.length == ys.length)) = decide (xs = ys) := by
  rw [Bool.eq_iff_iff]
  simp only [Bool.and_eq_true, List.all_eq_true, List.mem_range, decide_eq_true_eq, beq_iff_eq]
  constructor
  · rintro ⟨a, b⟩
    refine List.ext_getElem? fun j => ?_
    by_cases hj : j < xs.length
    · exact a j (by omega)
    · rw [List.getElem?_eq_none (by omega), List.getElem?_eq_none (by omega)]
  · rintro rfl
    exact ⟨fun _ _ => rfl, rfl⟩
theorem opt_some {κ : Type} [DecidableEq κ] (x y : κ) : decide (x = y) = decide (some x = some y) := by by_cases e : x = y <;> simp [e]

theorem EK.each {κ : Type} [DecidableEq κ] (e : EK κ) {A : Around} {s : Shared} {xs ys : List κ} {us vs : Array Value} (hu : Paired (e.is s.heap) xs us.toList) (hv : Paired (e.is s.heap) ys vs.toList) (hr : A.units + e.room < cLine) :
    ∀ j (h1 : j < us.size) (h2 : j < vs.size), SeqAt.EqAt A s us[j] vs[j] (decide (xs[j]? = ys[j]?)) := by
  intro j h1 h2
  obtain ⟨x, hx, hxe⟩ := paired_get hu j (by simpa using h1)
  obtain ⟨y, hy, hye⟩ := paired_get hv j (by simpa using h2)
  have := e.eq (A := A) (s := s) hxe hye hr
  rw [hx, hy, ← opt_some]
  simpa using this

theorem tup_same {h : Heap} {a : Addr} {items items' : Array Value} (x : h.IsTuple a items) (y : h.IsTuple a items') : items = items' := by
  obtain ⟨o, ho, _, n, hd⟩ := x
  obtain ⟨o', ho', _, n', hd'⟩ := y
  rw [ho] at ho'
  injection ho' with ho'
  subst ho'
  rw [hd] at hd'
  injection hd'
theorem size_of {α : Type} {F : α → Value → Prop} {xs : List α} {us : Array Value} (h : Paired F xs us.toList) : us.size = xs.length := h.length.symm
/-- tuples of a kind -/
noncomputable def tupE {κ : Type} [DecidableEq κ] (e : EK κ) : EK (List κ) where
  is := fun h ks v => ∃ a items, v = .ref a ∧ h.IsTuple a items ∧ Paired (e.is h) ks items.toList
  room := e.room + 1
  inj := by
    rintro h x y v ⟨a, items, rfl, hi, hp⟩ ⟨b, items', e', hi', hp'⟩
    injection e' with e'
    subst e'
    obtain rfl := tup_same hi hi'
    exact paired_inj (F := e.is h) (fun _ _ _ q r => e.inj q r) hp hp'
  eq := by
    rintro A s x y u v ⟨a, items, rfl, hi, hp⟩ ⟨b, items', rfl, hi', hp'⟩ hr
    by_cases hab : a = b
    · subst hab
      have : x = y := by
        obtain rfl := tup_same hi hi'
        exact paired_inj (F := e.is s.heap) (fun _ _ _ q r => e.inj q r) hp hp'
      rw [decide_eq_true this]
      exact SeqAt.EqAt.same _
    · refine SeqAt.EqAt.of_refs hab ?_
      have := SeqAt.RcAt.tuples hi hi' (by first | exact Nat.lt_of_le_of_lt (Nat.le_add_right _ _) hr | omega) (e.each (A := A.in1) hp hp' (by show A.units + 1 + e.room < cLine; rw [Nat.add_assoc, Nat.add_comm 1]; exact hr))
      rw [size_of hp, size_of hp', all_eq] at this
      exact this

section
variable {prog : Program} {w : World} {K : Frag} {A : Around} {E : Value → Shared → Prop} {n : Nat} {g h : Heap} {env : Env} {L : Addr} {m : Str → Option Value} {l : List (Addr × Obj)} {s₀ : Shared} {t : Nat} {Q : Value → Shared → Prop} {gl : Obj → List (Addr × Obj)}
variable {κ : Type} [DecidableEq κ]

theorem ne_lists (e : EK κ) {s : Shared} {a b : Addr} {us vs : Array Value} {xs ys : List κ} (ha : s.heap.IsList a us) (hb : s.heap.IsList b vs) (hu : Paired (e.is s.heap) xs us.toList) (hv : Paired (e.is s.heap) ys vs.toList) (hr : A.units + 1 + e.room < cLine)
    (hQ : Q (.bool (!decide (xs = ys))) s) : wpAny (model prog w) A (compareOp .NotEq (.ref a) (.ref b)) Q E s := by
  have hx : us.size = xs.length := size_of hu
  have hy : vs.size = ys.length := size_of hv
  by_cases hz : us.size = vs.size
  · have := SeqAt.RcNeAt.lists ha hb hz (Nat.lt_of_le_of_lt (Nat.le_trans (Nat.le_succ _) (Nat.le_add_right _ _)) hr) (e.each (A := A.in1) hu hv hr)
    refine this prog w E Q ?_
    have e2 := all_eq xs ys
    rw [show min xs.length ys.length = us.size by rw [← hx, ← hy, ← hz, Nat.min_self], show (xs.length == ys.length) = true from beq_iff_eq.mpr (hx.symm.trans (hz.trans hy)), Bool.and_true] at e2
    rw [e2]
    exact hQ
  · refine SeqAt.RcNeAt.lists_lengths ha hb (bne_iff_ne.mpr hz) (Nat.lt_of_le_of_lt (Nat.le_trans (Nat.le_succ _) (Nat.le_add_right _ _)) hr) prog w E Q ?_
    rw [decide_eq_false (fun q => hz (by rw [hx, hy, q]))] at hQ
    exact hQ
theorem r_neL (e : EK κ) (C : Fx K A n g env L) (hn : n ≤ 100) (he : e.room ≤ 5) {a b : Addr} {us vs : Array Value} {xs ys : List κ} {j k : Nat} (S : St g L h m l) (ha : (a, listOf us j) ∈ l) (hb : (b, listOf vs k) ∈ l) (hu : Paired (e.is h) xs us.toList) (hv : Paired (e.is h) ys vs.toList)
    (hQ : Q (.bool (!decide (xs = ys))) (sg s₀ h t)) : wpAny (model prog w) A (compareOp .NotEq (.ref a) (.ref b)) Q E (sg s₀ h t) :=
  ne_lists (s := sg s₀ h t) e ⟨_, S.get ha, rfl, _, rfl⟩ ⟨_, S.get hb, rfl, _, rfl⟩ hu hv (C.roomE hn he) hQ
/-- a list against a bare one -/
theorem r_neNil (C : Fx K A n g env L) (hn : n ≤ 100) {a b : Addr} {us : Array Value} {j k : Nat} (S : St g L h m l) (ha : (a, listOf us j) ∈ l) (hb : (b, listOf #[] k) ∈ l)
    (hQ : Q (.bool (!decide (us.size = 0))) (sg s₀ h t)) : wpAny (model prog w) A (compareOp .NotEq (.ref a) (.ref b)) Q E (sg s₀ h t) := by
  have hu : A.units < cLine := C.room (r := 0) hn (Nat.le_refl _) rfl
  have ha' : (sg s₀ h t).heap.IsList a us := ⟨_, S.get ha, rfl, _, rfl⟩
  have hb' : (sg s₀ h t).heap.IsList b #[] := ⟨_, S.get hb, rfl, _, rfl⟩
  by_cases hz : us.size = 0
  · have := SeqAt.RcNeAt.lists (e := fun _ => true) ha' hb' hz hu (fun j h1 h2 => absurd h2 (Nat.not_lt_zero _))
    refine this prog w E Q ?_
    rw [hz] at hQ ⊢
    exact hQ
  · refine SeqAt.RcNeAt.lists_lengths ha' hb' (by simpa using hz) hu prog w E Q ?_
    rw [decide_eq_false hz] at hQ
    exact hQ
theorem r_neT (e : EK κ) (C : Fx K A n g env L) (hn : n ≤ 100) (he : e.room ≤ 5) {a b : Addr} {us vs : Array Value} {xs ys : List κ} (ha : h.IsTuple a us) (hb : h.IsTuple b vs) (hu : Paired (e.is h) xs us.toList) (hv : Paired (e.is h) ys vs.toList)
    (hQ : Q (.bool (!decide (xs = ys))) (sg s₀ h t)) : wpAny (model prog w) A (compareOp .NotEq (.ref a) (.ref b)) Q E (sg s₀ h t) := by
  have hr : A.units + 1 + e.room < cLine := C.roomE hn he
  have := SeqAt.RcNeAt.tuples (A := A) (s := sg s₀ h t) ha hb (by first | exact C.room (r := 0) hn (Nat.le_refl _) rfl | exact C.room (r := 1) hn (Nat.le_refl _) rfl | omega) (e.each (A := A.in1) hu hv hr)
  refine this prog w E Q ?_
  rw [show us.size = xs.length by rw [hu.length]; simp, show vs.size = ys.length by rw [hv.length]; simp, all_eq]
  exact hQ

open Classical in
theorem EK.inAt (e : EK κ) {s : Shared} {x : κ} {v : Value} {xs : List κ} {us : Array Value} (hu : Paired (e.is s.heap) xs us.toList) (hv : e.is s.heap x v) (hr : A.units + e.room < cLine) : ∀ y ∈ us, SeqAt.EqAt A s y v (decide (e.is s.heap x y)) := by
  intro y hy
  obtain ⟨j, hj⟩ := List.mem_iff_getElem?.mp (Array.mem_toList_iff.mpr hy)
  have hj' : j < us.toList.length := by
    rcases Nat.lt_or_ge j us.toList.length with q | q
    · exact q
    · rw [List.getElem?_eq_none q] at hj; cases hj
  obtain ⟨k, _, hk⟩ := paired_get hu j hj'
  rw [List.getElem?_eq_getElem hj'] at hj
  injection hj with hj
  rw [hj] at hk
  have := e.eq (A := A) (s := s) hk hv hr
  have e2 : decide (k = x) = decide (e.is s.heap x y) := by
    by_cases q : k = x
    · rw [decide_eq_true q, decide_eq_true (q ▸ hk)]
    · rw [decide_eq_false q, decide_eq_false fun z => q (e.inj hk z)]
  rwa [e2] at this
open Classical in
theorem EK.any (e : EK κ) {h : Heap} {x : κ} : ∀ {xs : List κ} {us : List Value}, Paired (e.is h) xs us → us.any (fun y => decide (e.is h x y)) = decide (x ∈ xs) := by
  intro xs us p
  induction p with
  | nil => simp
  | @cons k y _ _ q r ih =>
    rw [List.any_cons, ih]
    by_cases z : k = x
    · subst z
      simp [q]
    · have : ¬ e.is h x y := fun w => z (e.inj q w)
      simp [this, Ne.symm z]
theorem r_inL (e : EK κ) (C : Fx K A n g env L) (hn : n ≤ 100) (he : e.room ≤ 5) {D : Addr} {us : Array Value} {xs : List κ} {x : κ} {v : Value} {j : Nat} (S : St g L h m l) (ha : (D, listOf us j) ∈ l) (hu : Paired (e.is h) xs us.toList) (hv : e.is h x v)
    (hQ : Q (.bool (decide (x ∈ xs))) (sg s₀ h t)) : wpAny (model prog w) A (compareOp .In v (.ref D)) Q E (sg s₀ h t) := by
  classical
  have hr : A.in1.units + e.room < cLine := C.roomE hn he
  refine SeqAt.in_listAt (s := sg s₀ h t) (fun y => decide (e.is h x y)) ⟨_, S.get ha, rfl, _, rfl⟩ (e.inAt (A := A.in1) (s := sg s₀ h t) hu hv hr) ?_
  rw [show us.any (fun y => decide (e.is h x y)) = decide (x ∈ xs) by rw [← Array.any_toList]; exact e.any hu]
  exact hQ
theorem r_notInL (e : EK κ) (C : Fx K A n g env L) (hn : n ≤ 100) (he : e.room ≤ 5) {D : Addr} {us : Array Value} {xs : List κ} {x : κ} {v : Value} {j : Nat} (S : St g L h m l) (ha : (D, listOf us j) ∈ l) (hu : Paired (e.is h) xs us.toList) (hv : e.is h x v)
    (hQ : Q (.bool (!decide (x ∈ xs))) (sg s₀ h t)) : wpAny (model prog w) A (compareOp .NotIn v (.ref D)) Q E (sg s₀ h t) := by
  classical
  have hr : A.in1.units + e.room < cLine := C.roomE hn he
  refine SeqAt.notIn_listAt (s := sg s₀ h t) (fun y => decide (e.is h x y)) ⟨_, S.get ha, rfl, _, rfl⟩ (e.inAt (A := A.in1) (s := sg s₀ h t) hu hv hr) ?_
  rw [show us.any (fun y => decide (e.is h x y)) = decide (x ∈ xs) by rw [← Array.any_toList]; exact e.any hu]
  exact hQ
theorem r_index (e : EK κ) (C : Fx K A n g env L) (hn : n ≤ 100) (he : e.room ≤ 5) {D : Addr} {us : Array Value} {xs : List κ} {x : κ} {v : Value} {k j : Nat} (S : St g L h m l) (ha : (D, listOf us k) ∈ l) (hu : Paired (e.is h) xs us.toList) (hv : e.is h x v)
    (hj : xs[j]? = some x) (hno : ∀ i < j, xs[i]? ≠ some x) (hz : us.size < 1000) (hQ : ∀ tk t', Q (.int j tk) (sg s₀ h t')) : wpAny (model prog w) A (call (.builtin "list.index") [.ref D, v]) Q E (sg s₀ h t) := by
  classical
  have hr : A.in1.units + e.room < cLine := C.roomE hn he
  have hjl : j < us.size := by
    have : j < xs.length := by
      rcases Nat.lt_or_ge j xs.length with q | q
      · exact q
      · rw [List.getElem?_eq_none q] at hj; cases hj
    rw [hu.length] at this
    simpa using this
  have at' : ∀ i (hi : i < us.size), ∃ y, xs[i]? = some y ∧ e.is h y us[i] := fun i hi => by
    obtain ⟨y, h1, h2⟩ := paired_get hu i (by simpa using hi)
    exact ⟨y, h1, by simpa using h2⟩
  refine call_meets PySem.F.slot_list_index (s := sg s₀ h t) ⟨_, S.get ha, rfl⟩ PySem.F.entry_list_index (PySem.F.args_list_index_2 _ _) (SeqAt.list_indexAt D us k none #[] v (fun y => decide (e.is h x y)) j hjl (by omega) ?_ fun i hi hlt => ?_) ⟨S.get ha, fun y hy => e.inAt (A := A.in1) (s := sg s₀ h t) hu hv hr y hy, hQ _ _⟩
  · obtain ⟨y, h1, h2⟩ := at' j hjl
    rw [hj] at h1
    injection h1 with h1
    exact decide_eq_true (h1 ▸ h2)
  · obtain ⟨y, h1, h2⟩ := at' i hi
    exact decide_eq_false fun z => hno i hlt (by rw [h1, e.inj h2 z])

theorem r_addL {a b : Addr} {us vs : List Value} {j k : Nat} (S : St g L h m l) (ha : (a, listOf us.toArray j) ∈ l) (hb : (b, listOf vs.toArray k) ∈ l) (hz : us.length + vs.length ≤ 1000)
    (hQ : ∀ d h' t', St g L h' m ((d, listOf (us ++ vs).toArray 0) :: l) → Q (.ref d) (sg s₀ h' t')) : wpAny (model prog w) A (binaryOp .Add (.ref a) (.ref b)) Q E (sg s₀ h t) :=
  kmk_add_lit (s := sg s₀ h t) S.F S.N ⟨_, S.get ha, rfl, _, rfl⟩ ⟨_, S.get hb, rfl, _, rfl⟩ rfl (fun d h' F' N' l1 => hQ d h' _ (by simpa using S.pushed F' N' l1)) (by rw [sizeLine_eq]; simpa using Nat.le_trans hz (by decide))
theorem r_tupleOf {a : Addr} {us : List Value} {j : Nat} (S : St g L h m l) (ha : (a, listOf us.toArray j) ∈ l) (hz : us.length ≤ 1000)
    (hQ : ∀ d h' t', St g L h' m ((d, { cls := .type "tuple", data := .seq us.toArray }) :: l) → Q (.ref d) (sg s₀ h' t')) : wpAny (model prog w) A (call (.type "tuple") [.ref a]) Q E (sg s₀ h t) :=
  kde_tupleOf (s := sg s₀ h t) S.F S.N ⟨_, S.get ha, rfl, _, rfl⟩ (by simpa using Nat.le_trans hz (by decide)) rfl (fun d h' F' N' l1 => hQ d h' _ (by simpa using S.pushed F' N' l1))
end
end Mine

namespace Mine

/-! taking entries of the ledger to the front, leaving others -/
inductive Sel (p : Addr × Obj) : List (Addr × Obj) → List (Addr × Obj) → Prop
  | head {r} : Sel p (p :: r) r
  | tail {q l r} : Sel p l r → Sel p (q :: l) (q :: r)
theorem Sel.perm {p : Addr × Obj} : ∀ {l r : List (Addr × Obj)}, Sel p l r → (p :: r).Perm l := by
  intro l r s
  induction s with
  | head => exact .refl _
  | tail s ih => exact (List.Perm.swap _ _ _).trans (ih.cons _)
inductive Sub : List (Addr × Obj) → List (Addr × Obj) → Prop
  | refl {l} : Sub l l
  | take {p l r l'} : Sel p l r → Sub l' r → Sub (p :: l') l
  | skip {q l l'} : Sub l' l → Sub l' (q :: l)
theorem Sub.probe {q : Addr × Obj} {l l' : List (Addr × Obj)} (h : q ∈ l' → Sub l' (q :: l)) (m : q ∈ l') : Sub l' (q :: l) := h m
theorem Sub.perm : ∀ {l' l : List (Addr × Obj)}, Sub l' l → ∃ r, (l' ++ r).Perm l := by
  intro l' l h
  induction h with
  | refl => exact ⟨[], by rw [List.append_nil]⟩
  | take s h ih => obtain ⟨r, hr⟩ := ih; exact ⟨r, (hr.cons _).trans s.perm⟩
  | skip h ih => obtain ⟨r, hr⟩ := ih; exact ⟨_ :: r, List.perm_middle.trans (hr.cons _)⟩
theorem St.subS {g h : Heap} {L : Addr} {m : Str → Option Value} {l l' : List (Addr × Obj)} (S : St g L h m l) (hs : Sub l' l) : St g L h m l' := by
  obtain ⟨r, hr⟩ := hs.perm
  exact (S.perm hr).subl (List.sublist_append_left _ _)
theorem St.bring {g h : Heap} {L : Addr} {m : Str → Option Value} {l r : List (Addr × Obj)} {p : Addr × Obj} (S : St g L h m l) (hs : Sel p l r) : St g L h m (p :: r) := S.perm hs.perm
theorem St.bring2 {g h : Heap} {L : Addr} {m : Str → Option Value} {l r r' : List (Addr × Obj)} {p q : Addr × Obj} (S : St g L h m l) (h1 : Sel p l r) (h2 : Sel q r r') : St g L h m (p :: q :: r') := S.perm ((h2.perm.cons _).trans h1.perm)
theorem St.bring3 {g h : Heap} {L : Addr} {m : Str → Option Value} {l r r' r'' : List (Addr × Obj)} {p q u : Addr × Obj} (S : St g L h m l) (h1 : Sel p l r) (h2 : Sel q r r') (h3 : Sel u r' r'') : St g L h m (p :: q :: u :: r'') := S.perm ((((h3.perm.cons _).trans h2.perm).cons _).trans h1.perm)
theorem turn_S {s₀ : Shared} {g h : Heap} {L I : Addr} {o : Obj} {J : (Str → Option Value) → List (Addr × Obj) → Prop} {Q : Flow → Shared → Prop} {t : Nat} {m : Str → Option Value} {l : List (Addr × Obj)}
    (l' : List (Addr × Obj)) (S : St g L h m l) (hs : Sub ((I, o) :: l') l) (hJ : J m l') : Turn s₀ g L I o J Q .next (sg s₀ h t) := ⟨_, _, _, _, rfl, S.subS hs, hJ⟩

/-! tuples of the ledger -/
@[reducible] noncomputable def tupO (vs : List Value) : Obj := { cls := .type "tuple", data := .seq vs.toArray }
/-- a value that is a tuple of the ledger with such items -/
inductive TupIn {κ : Type} (is : κ → Value → Prop) (l : List (Addr × Obj)) (ks : List κ) (v : Value) : Prop
  | mk (a : _) (vs : _)
    (hc0 : v = .ref a)
    (hc1 : (a, tupO vs) ∈ l)
    (hc2 : Paired is ks vs) : TupIn is l ks v
theorem TupIn.mono {κ : Type} {is : κ → Value → Prop} {l l' : List (Addr × Obj)} {ks : List κ} {v : Value} (x : TupIn is l ks v) (h : ∀ p ∈ l, p ∈ l') : TupIn is l' ks v := by
  obtain ⟨a, vs, e, hm, hp⟩ := x
  exact ⟨a, vs, e, h _ hm, hp⟩
noncomputable def Bt (x : List UInt8) (v : Value) : Prop := ∃ t, v = .bytes x.toArray t
noncomputable def SI (x : Str ⊕ Int) (v : Value) : Prop := match x with | .inl x => ∃ t, v = .str x t | .inr i => ∃ t, v = .int i t
section
variable {g h : Heap} {L : Addr} {m : Str → Option Value} {l : List (Addr × Obj)}
theorem TupIn.is {κ : Type} [DecidableEq κ] {e : EK κ} {is : κ → Value → Prop} (he : ∀ h x v, is x v → e.is h x v) (S : St g L h m l) {ks : List κ} {v : Value} (x : TupIn is l ks v) : (tupE e).is h ks v := by
  obtain ⟨a, vs, rfl, hm, hp⟩ := x
  exact ⟨a, vs.toArray, rfl, ⟨_, S.get hm, rfl, 0, rfl⟩, by simpa using hp.mono (he h)⟩
theorem bt_is : ∀ (h : Heap) (x : List UInt8) (v : Value), Bt x v → bytesE.is h x v := fun _ _ _ x => x
end
theorem Paired.imp {α β : Type} {F G : α → β → Prop} (hm : ∀ a b, F a b → G a b) {xs : List α} {ys : List β} (h : Paired F xs ys) : Paired G xs ys := h.mono hm

theorem seqIndex_in {k : Int} {n : Nat} (h0 : 0 ≤ k) (h : k.toNat < n) : seqIndex? k n = some k.toNat := by
  unfold seqIndex?
  rw [if_neg (show ¬ k < 0 by omega)]
  have h2 : k < (n : Int) := by omega
  simp [h0, h2]
section
variable {prog : Program} {w : World} {K : Frag} {A : Around} {E : Value → Shared → Prop} {n : Nat} {g h : Heap} {env : Env} {L : Addr} {m : Str → Option Value} {l : List (Addr × Obj)} {s₀ : Shared} {t : Nat} {Q : Value → Shared → Prop} {gl : Obj → List (Addr × Obj)}
theorem r_appendL {D : Addr} {its : List Value} {k : Nat} {x : Value} (S : St g L h m l) (U : Spot D (listOf its.toArray k) l gl) (hz : its.length ≤ 1000)
    (hQ : ∀ h' t' k', St g L h' m (gl (listOf (its ++ [x]).toArray k')) → Q .none (sg s₀ h' t')) : wpAny (model prog w) A (call (.builtin "list.append") [.ref D, x]) Q E (sg s₀ h t) :=
  r_append S U (by rw [sizeLine_eq]; simp; omega) fun h' t' S' => hQ h' t' (k + 1) (by simpa using S')
theorem r_popL {D : Addr} {its : List Value} {k : Nat} (S : St g L h m l) (U : Spot D (listOf its.toArray k) l gl) (h0 : its ≠ []) (hz : its.length < 1000)
    (hQ : ∀ h' t' k', St g L h' m (gl (listOf its.dropLast.toArray k')) → Q (its.getLast h0) (sg s₀ h' t')) : wpAny (model prog w) A (call (.builtin "list.pop") [.ref D]) Q E (sg s₀ h t) := by
  have e := List.dropLast_concat_getLast h0
  refine r_pop (p := its.dropLast) (y := its.getLast h0) (k := k) (gl := gl) S (by rwa [e]) (by rw [List.length_dropLast]; omega) fun h' t' S' => hQ h' t' _ S'
theorem r_pop0L {D : Addr} {its : List Value} {k : Nat} {u : Tok} (S : St g L h m l) (U : Spot D (listOf its.toArray k) l gl) (h0 : its ≠ []) (hz : its.length < 1000)
    (hQ : ∀ h' t' k' y, St g L h' m (gl (listOf its.tail.toArray k')) → Q y (sg s₀ h' t')) : wpAny (model prog w) A (call (.builtin "list.pop") [.ref D, .int 0 u]) Q E (sg s₀ h t) := by
  cases its with
  | nil => exact absurd rfl h0
  | cons y p => exact r_pop0 (p := p) (y := y) (k := k) (gl := gl) S U (by simpa using Nat.lt_of_succ_lt hz) fun h' t' S' => hQ h' t' _ _ S'
theorem r_lenL {D : Addr} {its : List Value} {k : Nat} (S : St g L h m l) (hm : (D, listOf its.toArray k) ∈ l) (hz : its.length < 1000000) (hQ : ∀ tk t', Q (.int its.length tk) (sg s₀ h t')) :
    wpAny (model prog w) A (call (.builtin "len") [.ref D]) Q E (sg s₀ h t) := r_len S hm (by simpa using hz) (by simpa using hQ)
/-- an item of a list of the ledger -/
theorem r_itemL {D : Addr} {its : List Value} {c : Nat} {value slice : Expr} {k : Int} {u : Tok} {v : Value} (S : St g L h m l) (hm : (D, listOf its.toArray c) ∈ l) (h0 : 0 ≤ k) (hhi : k < 2 ^ 63) (hx : its[k.toNat]? = some v) (hQ : Q v (sg s₀ h t))
    (hs : subscripted slice false (.ref D) (.int k u) = operate [.ref D, .int k u] (getItem (.ref D) (.int k u)) := by with_unfolding_all rfl) :
    wpAny (model prog w) A (subscriptTail value slice (.ref D) (.int k u)) Q E (sg s₀ h t) :=
  have hl : (sg s₀ h t).heap.IsList D its.toArray := ⟨_, S.get hm, rfl, c, rfl⟩
  tail_any hl.typeIs slot_list_getitem.lookup (wpAny_getItem_list hl h0 hhi (by simpa using hx) hQ) hs
/-- an item of a tuple of the ledger -/
theorem r_itemT {a : Addr} {its : List Value} {value slice : Expr} {k : Int} {u : Tok} {v : Value} (S : St g L h m l) (hm : (a, tupO its) ∈ l) (h0 : 0 ≤ k) (hhi : k < 2 ^ 63) (hx : its[k.toNat]? = some v) (hQ : Q v (sg s₀ h t))
    (hs : subscripted slice false (.ref a) (.int k u) = operate [.ref a, .int k u] (getItem (.ref a) (.int k u)) := by with_unfolding_all rfl) :
    wpAny (model prog w) A (subscriptTail value slice (.ref a) (.int k u)) Q E (sg s₀ h t) := by
  refine item_tupleT (s := sg s₀ h t) (l := its) (j := k.toNat) ⟨_, S.get hm, rfl, 0, rfl⟩ (by omega) hhi ?_ hx hQ hs
  have : k.toNat < its.length := by
    rcases Nat.lt_or_ge k.toNat its.length with q | q
    · exact q
    · rw [List.getElem?_eq_none q] at hx; cases hx
  exact seqIndex_in h0 this
/-- an item of a written tuple -/
theorem r_itemK {a : Addr} {its : List Value} {dd : Option Addr} {sl : Array (Option Value)} {c : Nat} {value slice : Expr} {k : Int} {u : Tok} {v : Value} (C : Fx K A n g env L) (S : St g L h m l) (hl : K.lookup a = some ⟨.type "tuple", dd, .seq its.toArray c, sl⟩) (h0 : 0 ≤ k) (hhi : k < 2 ^ 63) (hx : its[k.toNat]? = some v) (hQ : Q v (sg s₀ h t))
    (hs : subscripted slice false (.ref a) (.int k u) = operate [.ref a, .int k u] (getItem (.ref a) (.int k u)) := by with_unfolding_all rfl) :
    wpAny (model prog w) A (subscriptTail value slice (.ref a) (.int k u)) Q E (sg s₀ h t) := by
  refine topTup_K (s := sg s₀ h t) (l := its) (j := k.toNat) S.F C.X hl (by omega) hhi ?_ hx hQ hs
  have : k.toNat < its.length := by
    rcases Nat.lt_or_ge k.toNat its.length with q | q
    · exact q
    · rw [List.getElem?_eq_none q] at hx; cases hx
  exact seqIndex_in h0 this
theorem r_neNilL (C : Fx K A n g env L) (hn : n ≤ 100) {a b : Addr} {us : List Value} {j k : Nat} (S : St g L h m l) (ha : (a, listOf us.toArray j) ∈ l) (hb : (b, listOf #[] k) ∈ l)
    (h0 : us = [] → Q (.bool false) (sg s₀ h t)) (h1 : us ≠ [] → Q (.bool true) (sg s₀ h t)) : wpAny (model prog w) A (compareOp .NotEq (.ref a) (.ref b)) Q E (sg s₀ h t) := by
  refine r_neNil C hn S ha hb ?_
  by_cases e : us = []
  · subst e; exact h0 rfl
  · have : ¬ us.toArray.size = 0 := by simpa using e
    rw [decide_eq_false this]
    exact h1 e
variable {cn : Str} {cs : Scope} {fa : Addr} {ccd : Value} {cl : List (Str × Addr)}
theorem r_expr {e : Expr} {pos : Pos} {Q : Flow → Shared → Prop} (he : env = envX cn cs L fa ccd cl) (hi : interactive (envX cn cs L fa ccd cl) = false) (hs : swapsWith e none pos.line (envX cn cs L fa ccd cl) = pure false)
    (hQ : wpAny (model prog w) A (eval e env) (fun _ => Q .next) E (sg s₀ h t)) : wpAny (model prog w) A (exec (.Expr e pos) env) Q E (sg s₀ h t) := by subst he; exact wpAny_Expr_any hQ hi hs
end
end Mine

namespace Mine

section
variable {prog : Program} {w : World} {K : Frag} {A : Around} {n : Nat} {g h : Heap} {env : Env} {L : Addr} {m : Str → Option Value} {l : List (Addr × Obj)} {s₀ : Shared} {t : Nat}

theorem letGo_listiter {E : Value → Shared → Prop} {target : Expr} {I d : Addr} {i : Nat} {v : Value} {Q' : Unit → Shared → Prop} {s' : Shared} (hit : s'.heap.IsListIter I d i) (h : Q' () s') :
    wpAny (model prog w) A (letOwnedTupleGo target (.ref I) v) Q' E s' := by
  obtain ⟨o, ho, hc, hd⟩ := hit
  unfold letOwnedTupleGo
  cases target <;> first
    | exact wpAny_pure h
    | (cases v <;> first
        | exact wpAny_pure h
        | (refine wpAny_bind (wpAny_load ho ?_)
           rw [hc, hd]
           exact wpAny_pure h))

/-- a for over a list of the ledger, any target: by what holds of the turn's number, the frame and the ledger -/
noncomputable def ForBack (Q : Flow → Shared → Prop) (r : Result) (s' : Shared) : Prop := match r with | .ok f => Q f s' | .error _ => False
theorem For_T {target iter : Expr} {pos : Pos} {body : List Stmt} {Q : Flow → Shared → Prop} {s : Shared}
    (hQ : wpAny (model prog w) A (eval iter env) (fun xv s₁ => wpAny (model prog w) A (pyIter xv) (fun it s₂ => codeAny (model prog w) A (.forLoop target it body [] env) (ForBack Q) s₂) (fun _ _ => False) s₁) (fun _ _ => False) s)
    (hs : ∀ x, foldedSetIterable iter env x = pure x) : wpAny (model prog w) A (exec (.For target iter body [] pos) env) Q (fun _ _ => False) s :=
  wpAny_For (wpAny_mono hQ (fun _ _ h₁ => wpAny_mono h₁ (fun _ _ h₂ => codeAny_mono h₂ fun r s' hr => by
    cases r with
    | ok f => exact hr
    | error e => exact hr.elim) fun _ _ e => e) fun _ _ e => e) hs

/-- where a loop over a list stands -/
inductive AtItem (s₀ : Shared) (g : Heap) (L I D : Addr) (n : Nat) (J : Nat → (Str → Option Value) → List (Addr × Obj) → Prop) (k : Nat) (s' : Shared) : Prop
  | mk (h' : Heap) (t' : Nat) (m' : Str → Option Value) (l' : List (Addr × Obj)) (i : Nat) (o : Obj) (e : s' = sg s₀ h' t') (hc : o.cls = .type "list_iterator") (hd : o.data = .fields #[.ref D, .int i 0]) (S : St g L h' m' ((I, o) :: l')) (hJ : J i m' l') (hi : i ≤ n) (hk : k = n + 1 - i) : AtItem s₀ g L I D n J k s'
theorem iter_listT {D : Addr} {items : Array Value} {c : Nat} {target : Expr} {body : List Stmt} {Q : Flow → Shared → Prop} (J : Nat → (Str → Option Value) → List (Addr × Obj) → Prop)
    (hh : A.handled = none) (S : St g L h m l) (hfix : ∀ i m l, J i m l → (D, listOf items c) ∈ l) (hj : J 0 m l)
    (turn : ∀ i v m₁ l₁ h₁ t₁ I o₁, i < items.size → items[i]? = some v → J i m₁ l₁ → St g L h₁ m₁ ((I, o₁) :: l₁) →
      wpAny (model prog w) A (assign target env v) (fun _ s₂ => wpAny (model prog w) A (execs body env) (Turn s₀ g L I o₁ (J (i + 1)) Q) (fun _ _ => False) s₂) (fun _ _ => False) (sg s₀ h₁ t₁))
    (done : ∀ h' t' m' l', St g L h' m' l' → J items.size m' l' → Q .next (sg s₀ h' t')) :
    wpAny (model prog w) A (pyIter (.ref D)) (fun it s₂ => codeAny (model prog w) A (.forLoop target it body [] env) (ForBack Q) s₂) (fun _ _ => False) (sg s₀ h t) := by
  have hm := hfix 0 m l hj
  have hl : h.IsList D items := ⟨_, S.get hm, rfl, c, rfl⟩
  refine wpAny_pyIter_list (s := sg s₀ h t) hl ?_
  refine codeAny_forLoop_any (AtItem s₀ g L h.objs.size D items.size J) ?_ (items.size + 1)
    ⟨_, _, m, l, 0, _, rfl, rfl, rfl, S.push _, hj, Nat.zero_le _, rfl⟩
  rintro k s' ⟨h', t', m', l', i, o, rfl, hc, hd, S', hJ, hi, rfl⟩
  have hit : (sg s₀ h' t').heap.IsListIter h.objs.size D i := ⟨o, S'.get (.head _), hc, hd⟩
  have hl' : (sg s₀ h' t').heap.IsList D items := ⟨_, S'.get (.tail _ (hfix _ _ _ hJ)), rfl, c, rfl⟩
  by_cases hlt : i < items.size
  · refine wpAny_pyNext_list_item hit hl' (x := items[i]) (by simp [hlt]) fun h₁ hit₁ hs₁ => ?_
    obtain ⟨o₁, ho₁, hc₁, hd₁⟩ := id hit₁
    have S₁ : St g L h₁ m' ((h.objs.size, o₁) :: l') := S'.put (gl := fun o => (h.objs.size, o) :: l') .head hs₁ ho₁
    dsimp only
    refine letGo_listiter (s' := sg s₀ h₁ t') hit₁ ?_
    refine wpAny_mono (turn i items[i] m' l' h₁ t' h.objs.size o₁ hlt (by simp [hlt]) hJ S₁) (fun _ s₂ h₂ => wpAny_mono h₂ (fun f s₃ h₃ => ?_) fun _ _ e => e.elim) fun _ _ e => e.elim
    have fin : (∃ h' t' m'' l'', s₃ = sg s₀ h' t' ∧ St g L h' m'' ((h.objs.size, o₁) :: l'') ∧ J (i + 1) m'' l'') → ∃ m, m < items.size + 1 - i ∧ AtItem s₀ g L h.objs.size D items.size J m s₃ := by
      rintro ⟨h₂, t₂, m₂, l₂, rfl, S₂, hJ₂⟩
      exact ⟨items.size + 1 - (i + 1), by omega, h₂, t₂, m₂, l₂, i + 1, o₁, rfl, hc₁, hd₁, S₂, hJ₂, hlt, rfl⟩
    cases f with
    | next => exact fin h₃
    | cont => exact fin h₃
    | brk => exact h₃
    | ret v => exact h₃
  · have hin : i = items.size := by omega
    subst hin
    refine wpAny_pyNext_list_end hh hit hl' (by simp) fun h₁ hs₁ => ?_
    refine wpAny_execs_nil ?_
    have ne : ∀ b o, g.get? b = some o → b ≠ h.objs.size := fun b o e q => by
      have := (S'.N _ (.head _)).2.2
      rw [← q, e] at this
      cases this
    have S₁ := S'.drop
    have D' := S'.D
    rw [List.map_cons, List.nodup_cons] at D'
    refine done h₁ t' m' l' ⟨⟨S₁.F.ns.at' fun o e => hs₁ _ o (S'.N _ (.head _)).2.1.symm e, fun b o e => hs₁ b o (ne b o e) (S₁.F.keep b o e), S₁.F.above⟩, fun p hp => ⟨hs₁ _ _ (fun q => D'.1 (mem_fst hp q)) (S₁.N p hp).1, (S₁.N p hp).2⟩, S₁.D⟩ hJ

theorem Sub.mem {l' l : List (Addr × Obj)} (h : Sub l' l) : ∀ p ∈ l', p ∈ l := by
  obtain ⟨r, hr⟩ := h.perm
  exact fun p hp => hr.mem_iff.mp (List.mem_append_left _ hp)
theorem r_sliceL {E : Value → Shared → Prop} {D : Addr} {c : Nat} {its : List Value} {vl vu : Value} {lo hi : Option Int} {value slice : Expr} {Q : Value → Shared → Prop} (S : St g L h m l) (hm : (D, listOf its.toArray c) ∈ l) (pl : IsPart vl lo) (pu : IsPart vu hi)
    (hs : subscripted slice false (.ref D) (.ref h.objs.size) = operate [.ref h.objs.size, .ref D] (getItem (.ref D) (.ref h.objs.size))) (ht : ∀ r, letTemporaryGo value (.ref D) r = pure ()) (hz : its.length ≤ 1000)
    (hQ : ∀ d h' t', St g L h' m ((d, listOf (kms_pick its lo hi).toArray 0) :: l) → Q (.ref d) (sg s₀ h' t')) :
    wpAny (model prog w) A (subscriptTail value slice (.ref D) (.ref h.objs.size)) Q E (sg s₀ (h.push { cls := .type "slice", data := .fields #[vl, vu, .none] }) t) :=
  r_slice S hm pl pu (by simp) hs ht (by simpa using hz) hQ
/-- a cut behind a statement -/
noncomputable def NextIs (P : Shared → Prop) (f : Flow) (s' : Shared) : Prop := f = .next ∧ P s'
inductive MidJ (s₀ : Shared) (g : Heap) (L I : Addr) (o : Obj) (J : (Str → Option Value) → List (Addr × Obj) → Prop) (s' : Shared) : Prop
  | mk (h' : _) (t' : _) (m' : _) (l' : _)
    (hc0 : s' = sg s₀ h' t')
    (hc1 : St g L h' m' ((I, o) :: l'))
    (hc2 : J m' l') : MidJ s₀ g L I o J s'
theorem mid_S {I : Addr} {o : Obj} {J : (Str → Option Value) → List (Addr × Obj) → Prop} (l' : List (Addr × Obj)) (S : St g L h m l) (hs : Sub ((I, o) :: l') l) (hJ : J m l') : NextIs (MidJ s₀ g L I o J) .next (sg s₀ h t) := ⟨rfl, _, _, _, _, rfl, S.subS hs, hJ⟩
theorem cutS {E : Value → Shared → Prop} {Q : Flow → Shared → Prop} {x : Sem Flow} {s : Shared} (Mid : Shared → Prop) (hx : wpAny (model prog w) A x (NextIs Mid) E s) (k : ∀ s', Mid s' → Q .next s') : wpAny (model prog w) A x Q E s :=
  wpAny_mono hx (fun _ s' ⟨e, hm⟩ => e ▸ k s' hm) fun _ _ e => e

/-- an item of a written tuple of bytes -/
noncomputable def isBytesV : Value → Bool | .bytes _ _ => true | _ => false
theorem r_menuB {E : Value → Shared → Prop} {Q : Value → Shared → Prop} {a : Addr} {its : List Value} {dd : Option Addr} {sl : Array (Option Value)} {c : Nat} {value slice : Expr} {k : Int} {u : Tok} (C : Fx K A n g env L) (S : St g L h m l) (hl : K.lookup a = some ⟨.type "tuple", dd, .seq its.toArray c, sl⟩)
    (hb : its.all isBytesV = true) (h0 : 0 ≤ k) (h1 : k < its.length) (hhi : its.length < 1000) (hQ : ∀ x tk, Q (.bytes (List.toArray x) tk) (sg s₀ h t))
    (hs : subscripted slice false (.ref a) (.int k u) = operate [.ref a, .int k u] (getItem (.ref a) (.int k u)) := by with_unfolding_all rfl) :
    wpAny (model prog w) A (subscriptTail value slice (.ref a) (.int k u)) Q E (sg s₀ h t) := by
  have hk : k.toNat < its.length := by omega
  refine r_itemK (v := its[k.toNat]) C S hl h0 (by omega) (by simp [hk]) ?_ hs
  have := List.all_eq_true.mp hb _ (List.getElem_mem hk)
  revert this
  cases its[k.toNat] <;> intro this <;> first | cases this | skip
  rename_i x tk
  have := hQ x.toList tk
  simpa using this
theorem r_rangeN {k : Int} {tk : Tok} {Q : Value → Shared → Prop} {E : Value → Shared → Prop} (S : St g L h m l) (h0 : 0 ≤ k) (hQ : ∀ r h' t' ta tb tc, IsRange h' r 0 (k.toNat : Int) 1 ta tb tc → St g L h' m l → Q (.ref r) (sg s₀ h' t')) :
    wpAny (model prog w) A (call (.type "range") [.int k tk]) Q E (sg s₀ h t) := r_range S fun r h' t' ta tb tc hr S' => hQ r h' t' ta tb tc (by rwa [show ((k.toNat : Nat) : Int) = k by omega]) S'
end
theorem pick_push {us : List Value} {v : Value} {mo : Int} (h : (us.length : Int) ≤ mo) (h1 : 1 ≤ mo) : kms_pick (us ++ [v]) (some (-mo)) none = if mo < us.length + 1 then (us ++ [v]).tail else us ++ [v] := by
  unfold kms_pick kms_lo kms_hi
  simp only [List.length_append, List.length_cons, List.length_nil, Int.neg_neg]
  rw [if_pos (Int.neg_neg_of_pos (Int.lt_of_lt_of_le Int.zero_lt_one h1))]
  split
  · rename_i h2
    obtain rfl : mo = (us.length : Int) := Int.le_antisymm (Int.le_of_lt_add_one h2) h
    rw [show us.length + (0 + 1) - (us.length : Int).toNat = 1 from Nat.add_sub_cancel_left _ _, List.drop_one, List.take_of_length_le]
    simp
  · rename_i h2
    have h3 : us.length + (0 + 1) ≤ mo.toNat := Int.ofNat_le.mp (Int.le_trans (Int.not_lt.mp h2) (Int.self_le_toNat mo))
    rw [Nat.sub_eq_zero_of_le h3, List.drop_zero, List.take_of_length_le]
    simp
theorem pick_init (us : List Value) : kms_pick us none (some (-1)) = us.dropLast := by
  simp [kms_pick, kms_lo, kms_hi, List.dropLast_eq_take]
theorem pick_last (us : List Value) : kms_pick us (some (-1)) none = us.getLast?.toList := by
  rcases List.eq_nil_or_concat us with rfl | ⟨p, y, rfl⟩
  · rfl
  · simp [kms_pick, kms_lo, kms_hi]
end Mine

namespace Mine

/-! dicts whose keys are tuples -/
section
variable {prog : Program} {w : World} {κ : Type} [DecidableEq κ]
/-- what a dict's object holds -/
noncomputable def DH (knd : HeapKind prog w κ) (o : Obj) (xs : List (κ × Addr × Value)) : Prop := o.ExactDict ∧ ∃ es ep, o.data = .dict es ep ∧ es.toList = xs.map (entryOfKey knd) ∧ (xs.map (·.1)).Nodup
theorem DH.at {knd : HeapKind prog w κ} {o : Obj} {xs : List (κ × Addr × Value)} {h : Heap} {d : Addr} (H : DH knd o xs) (ho : h.get? d = some o) (K : ∀ x ∈ xs, knd.is h x.1 x.2.1) : h.DictOfH knd d xs := by
  obtain ⟨hc, es, ep, hd, he, hn⟩ := H
  exact ⟨o, es, ep, ho, hc, hd, he, K, hn⟩
theorem DH.out {knd : HeapKind prog w κ} {xs : List (κ × Addr × Value)} {h : Heap} {d : Addr} (H : h.DictOfH knd d xs) : ∃ o, h.get? d = some o ∧ DH knd o xs := by
  obtain ⟨o, es, ep, ho, hc, hd, he, _, hn⟩ := H
  exact ⟨o, ho, hc, es, ep, hd, he, hn⟩
noncomputable def Emp (o : Obj) : Prop := o.ExactDict ∧ ∃ ep, o.data = .dict #[] ep
theorem Emp.dh {knd : HeapKind prog w κ} {o : Obj} (H : Emp o) : DH knd o [] := by
  obtain ⟨hc, ep, hd⟩ := H
  exact ⟨hc, #[], ep, hd, rfl, List.nodup_nil⟩
theorem emp_of {o : Obj} (h : o.IsDictOf (PySem.strKind prog w) []) : Emp o := by
  obtain ⟨es, ep, hc, hd, _, hp, _⟩ := h
  refine ⟨hc, ep, ?_⟩
  have : es.toList = [] := List.eq_nil_of_length_eq_zero (by rw [hp.length]; rfl)
  rw [hd]
  obtain ⟨es⟩ := es
  simp at this
  rw [this]
variable {β : Type} [DecidableEq β]
noncomputable def TupK (bk : KeyKind prog w β) (l : List (Addr × Obj)) (ks : List β) (a : Addr) : Prop := ∃ vs, (a, tupO vs) ∈ l ∧ ItemsAre bk ks vs
theorem TupK.mono {bk : KeyKind prog w β} {l l' : List (Addr × Obj)} {ks : List β} {a : Addr} (x : TupK bk l ks a) (h : ∀ p ∈ l, p ∈ l') : TupK bk l' ks a := by
  obtain ⟨vs, hm, hi⟩ := x
  exact ⟨vs, h _ hm, hi⟩
theorem TupK.is {bk : KeyKind prog w β} {g h : Heap} {L : Addr} {m : Str → Option Value} {l : List (Addr × Obj)} {ks : List β} {a : Addr} (x : TupK bk l ks a) (S : St g L h m l) : (tupleKind bk).is h ks a := by
  obtain ⟨vs, hm, hi⟩ := x
  exact ⟨tupO vs, vs.toArray, 0, S.get hm, rfl, rfl, hi⟩

noncomputable def withoutH (xs : List (κ × Addr × Value)) (k : κ) : List (κ × Addr × Value) := xs.filter fun x => !decide (x.1 = k)
theorem nodup_withoutH {xs : List (κ × Addr × Value)} (hn : (xs.map (·.1)).Nodup) (k : κ) : ((withoutH xs k).map (·.1)).Nodup :=
  List.Sublist.nodup (List.Sublist.map (·.1) (List.filter_sublist (p := fun x : κ × Addr × Value => !decide (x.1 = k)))) hn
theorem erase_without {xs : List (κ × Addr × Value)} {k : κ} {p : Addr × Value} : ∀ {j : Nat}, (xs.map (·.1)).Nodup → xs[j]? = some (k, p) → xs.eraseIdx j = withoutH xs k := by
  induction xs with
  | nil => intro j _ h; simp at h
  | cons x r ih =>
    intro j hn hj
    rw [List.map_cons, List.nodup_cons] at hn
    cases j with
    | zero =>
      simp only [List.getElem?_cons_zero, Option.some.injEq] at hj
      subst hj
      have : r.filter (fun x => !decide (x.1 = k)) = r := by
        rw [List.filter_eq_self]
        intro y hy
        have : y.1 ≠ k := fun e => hn.1 (e ▸ List.mem_map_of_mem (f := (·.1)) hy)
        simpa using this
      simp [withoutH, this]
    | succ j =>
      simp only [List.getElem?_cons_succ] at hj
      have hm : k ∈ r.map (·.1) := List.mem_map.mpr ⟨(k, p), List.mem_of_getElem? hj, rfl⟩
      have hne : x.1 ≠ k := fun e => hn.1 (e ▸ hm)
      have e := ih hn.2 hj
      simp only [withoutH] at e ⊢
      rw [List.eraseIdx_cons_succ, e, List.filter_cons_of_pos (by simpa using hne)]
end

section
variable {prog : Program} {w : World} {κ : Type} [DecidableEq κ] {knd : HeapKind prog w κ} {A : Around} {E : Value → Shared → Prop} {s : Shared}
theorem takeOut_heap {d a : Addr} {xs : List (κ × Addr × Value)} {k : κ} {Q : Option DictEntry → Shared → Prop} (hu : knd.room A) (hkey : knd.is s.heap k a) (hm : s.heap.DictOfH knd d xs) (hsz : xs.length ≤ 1000)
    (hnone : atKey xs k = none → Q none { s with toks := s.toks + knd.draws k })
    (hsome : ∀ e p, atKey xs k = some p → e.val = p.2 → ∀ h', h'.DictOfH knd d (withoutH xs k) → Heap.SameBut d s.heap h' → Q (some e) { s with heap := h', toks := s.toks + knd.draws k }) :
    wpAny (model prog w) A (Builtin.Dict.takeOut d (.ref a)) Q E s := by
  obtain ⟨o, es, ep, ho, hc, hd, he, his, hn⟩ := hm
  have hes : es.size = xs.length := size_of_entries he
  unfold Builtin.Dict.takeOut
  try with_reducible refine wpAny_holding ?_
  refine wpAny_bind (knd.pyHash hu hkey ?_)
  refine wpAny_bind (wpAny_dictFind_heap (s := { s with toks := s.toks + knd.draws k }) hu hkey ho hd he his hn ?_ ?_)
  · intro hno
    exact wpAny_pure (hnone (atKey_none_of_get hno))
  · intro j p hj
    refine wpAny_bind (wpAny_dictEntries (s := { s with toks := s.toks + knd.draws k }) ho hd ?_)
    rw [entry_at he j, hj]
    have sub : ∀ x ∈ withoutH xs k, x ∈ xs := fun x hx => (List.mem_filter.mp hx).1
    refine wpAny_bind (wpAny_updateDictKeys (hz := by rw [hes, sizeLine_eq]; omega) (s := { s with toks := s.toks + knd.draws k }) ho hd (wpAny_pure (hsome _ p (atKey_of_get hn hj) rfl _ ⟨_, _, ep + 1, Heap.get?_update_self _ ho (Obj.isFreed_of_dict (Obj.data_mapDictKeys hd _)),
      hc.mapDictKeys _, Obj.data_mapDictKeys hd _, ?_, fun x hx => knd.keeps (his x (sub x hx)) ho hd (Heap.SameBut.update ..), nodup_withoutH hn k⟩ (Heap.SameBut.update ..))))
    rw [← erase_without hn hj]
    obtain ⟨l⟩ := es
    simp only at he
    subst he
    have em : ∀ (l : List (κ × Addr × Value)) (j : Nat), (l.map (entryOfKey knd)).eraseIdx j = (l.eraseIdx j).map (entryOfKey knd) := by
      intro l
      induction l with
      | nil => intro j; rfl
      | cons x r ih => intro j; cases j with
        | zero => rfl
        | succ j => simp [ih j]
    simp [em]
end

section
variable {prog : Program} {w : World} {β : Type} [DecidableEq β] {bk : KeyKind prog w β}
theorem pop_there (d a : Addr) :
    MeetsIn prog w (Builtin.«dict.pop» ⟨[.ref d, .ref a], []⟩) (fun A R s => (tupleKind bk).room A.in1 ∧ ∃ xs k p, s.heap.DictOfH (tupleKind bk) d xs ∧ (tupleKind bk).is s.heap k a ∧ xs.length ≤ 1000 ∧ atKey xs k = some p ∧
      ∀ h' t, h'.DictOfH (tupleKind bk) d (withoutH xs k) → Heap.SameBut d s.heap h' → R (.ok (.ret p.2)) { s with heap := h', toks := t }) :=
  .of_wp fun A R s hh => by
    obtain ⟨hu, xs, k, p, hm, hkey, hsz, hp, h1⟩ := hh
    have hm' := hm
    obtain ⟨o, es, ep, ho, hc, hd, he, _, _⟩ := hm'
    have hne : es.isEmpty = false := by
      rw [Array.isEmpty_eq_false_iff]
      intro e
      rw [e] at he
      have : xs = [] := List.map_eq_nil_iff.mp he.symm
      rw [this] at hp
      cases hp
    refine noE (foldQ fun q hq => ?_)
    unfold Builtin.«dict.pop»
    refine wpAny_bind ?_
    unfold Builtin.Dict.keyAndDefault
    refine wpAny_bind (wpAny_notOrdered_dict hm.typeIs ?_)
    show wpAny _ _ (pure (d, Value.ref a, none)) _ _ s
    refine wpAny_pure ?_
    dsimp only
    rw [if_neg (show ¬ ((keyPart (Value.ref a)).isSome = true) from Bool.false_ne_true)]
    refine wpAny_bind (wpAny_dictEntries ho hd (wpAny_bind (wpAny_pure ?_)))
    rw [if_neg (show ¬ (es.isEmpty = true) from by rw [hne]; exact Bool.false_ne_true)]
    refine wpAny_bind (takeOut_heap hu hkey hm hsz (fun e => by rw [hp] at e; cases e) fun e p' hp' hv h' hm' hs' => ?_)
    rw [hp] at hp'
    injection hp' with hp'
    subst hp'
    rw [if_neg (show ¬ ((some e).isNone = true) from Bool.false_ne_true)]
    exact wpAny_bind (wpAny_letGo (wpAny_pure (hq _ _ ⟨e.val, rfl, by rw [hv]; exact h1 h' _ hm' hs'⟩)))
theorem pop_dflt (d a : Addr) (hsys : (d == sysModules) = false) :
    MeetsIn prog w (Builtin.«dict.pop» ⟨[.ref d, .ref a, .none], []⟩) (fun A R s => (tupleKind bk).room A.in1 ∧ ∃ xs k, s.heap.DictOfH (tupleKind bk) d xs ∧ (tupleKind bk).is s.heap k a ∧ xs.length ≤ 1000 ∧
      ∀ v h' t, h'.DictOfH (tupleKind bk) d (withoutH xs k) → Heap.SameBut d s.heap h' → R (.ok (.ret v)) { s with heap := h', toks := t }) :=
  .of_wp fun A R s hh => by
    obtain ⟨hu, xs, k, hm, hkey, hsz, h1⟩ := hh
    have hm' := hm
    obtain ⟨o, es, ep, ho, hc, hd, he, hk, hn⟩ := hm'
    have none : atKey xs k = none → s.heap.DictOfH (tupleKind bk) d (withoutH xs k) := fun e => by
      have : withoutH xs k = xs := by
        unfold withoutH
        rw [List.filter_eq_self]
        intro x hx
        have : x.1 ≠ k := fun q => by
          obtain ⟨j, hj⟩ := List.mem_iff_getElem?.mp hx
          have := atKey_of_get (k := k) (p := x.2) hn (hj.trans (by rw [← q]))
          rw [e] at this
          cases this
        simpa using this
      rwa [this]
    refine noE (foldQ fun q hq => ?_)
    unfold Builtin.«dict.pop»
    refine wpAny_bind ?_
    unfold Builtin.Dict.keyAndDefault
    refine wpAny_bind (wpAny_notOrdered_dict hm.typeIs ?_)
    show wpAny _ _ (pure (d, Value.ref a, some Value.none)) _ _ s
    refine wpAny_pure ?_
    dsimp only
    rw [if_neg (show ¬ ((keyPart (Value.ref a)).isSome = true) from Bool.false_ne_true)]
    refine wpAny_bind (wpAny_dictEntries ho hd (wpAny_bind (wpAny_pure ?_)))
    cases hne : es.isEmpty with
    | true =>
      rw [if_pos rfl]
      refine wpAny_bind (wpAny_rule ?_)
      refine wpAny_bind (wpAny_pure ?_)
      rw [if_pos (show (Option.none (α := DictEntry)).isNone = true from rfl)]
      refine wpAny_bind (wpAny_missedRemoval_other hsys ?_)
      refine wpAny_bind (wpAny_rule (wpAny_pure (hq _ _ ⟨.none, rfl, h1 .none s.heap s.toks (none ?_) ⟨rfl, fun _ _ => rfl⟩⟩)))
      have : es.toList = [] := by simpa using hne
      rw [this] at he
      have : xs = [] := List.map_eq_nil_iff.mp he.symm
      rw [this]
      rfl
    | false =>
      rw [if_neg Bool.false_ne_true]
      refine wpAny_bind (takeOut_heap hu hkey hm hsz (fun e => ?_) fun e p' hp' hv h' hm' hs' => ?_)
      · rw [if_pos (show (Option.none (α := DictEntry)).isNone = true from rfl)]
        refine wpAny_bind (wpAny_missedRemoval_other hsys ?_)
        exact wpAny_bind (wpAny_rule (wpAny_pure (hq _ _ ⟨.none, rfl, h1 .none s.heap _ (none e) ⟨rfl, fun _ _ => rfl⟩⟩)))
      · rw [if_neg (show ¬ ((some e).isNone = true) from Bool.false_ne_true)]
        exact wpAny_bind (wpAny_letGo (wpAny_pure (hq _ _ ⟨e.val, rfl, h1 _ h' _ hm' hs'⟩)))
end
end Mine
namespace Mine
section
variable {prog : Program} {w : World} {K : Frag} {A : Around} {E : Value → Shared → Prop} {n : Nat} {g h : Heap} {env : Env} {L : Addr} {m : Str → Option Value} {l : List (Addr × Obj)} {s₀ : Shared} {t : Nat} {Q : Value → Shared → Prop} {gl : Obj → List (Addr × Obj)}
variable {β : Type} [DecidableEq β] {bk : KeyKind prog w β} {d a : Addr} {o : Obj} {xs : List (List β × Addr × Value)} {ks : List β}
/-- the keys stand on the ledger -/
noncomputable def KeysL (bk : KeyKind prog w β) (l : List (Addr × Obj)) (xs : List (List β × Addr × Value)) : Prop := ∀ x ∈ xs, TupK bk l x.1 x.2.1
theorem KeysL.mono {l' : List (Addr × Obj)} (H : KeysL bk l xs) (h : ∀ p ∈ l, p ∈ l') : KeysL bk l' xs := fun x hx => (H x hx).mono h
theorem dictAt (S : St g L h m l) (hm : (d, o) ∈ l) (H : DH (tupleKind bk) o xs) (hk : KeysL bk l xs) : h.DictOfH (tupleKind bk) d xs := H.at (S.get hm) fun x hx => (hk x hx).is S
theorem r_newDict {pos : Pos} (C : Fx K A n g env L) (S : St g L h m l) (hQ : ∀ d h' t o, (d == sysModules) = false → Emp o → St g L h' m ((d, o) :: l) → Q (.ref d) (sg s₀ h' t)) : wpAny (model prog w) A (eval (.Dict [] [] pos) env) Q E (sg s₀ h t) :=
  newDict_K (s := sg s₀ h t) S.F S.N C.nolimit fun d h' o F N l1 lo hd _ _ _ => hQ d h' _ o lo (emp_of hd) (S.pushed F N l1)
theorem r_hin (C : Fx K A n g env L) (hn : n ≤ 100) (S : St g L h m l) (hm : (d, o) ∈ l) (H : DH (tupleKind bk) o xs) (hk : KeysL bk l xs) (hka : TupK bk l ks a) (hsys : (d == sysModules) = false)
    (hQ : ∀ t', Q (.bool (atKey xs ks).isSome) (sg s₀ h t')) : wpAny (model prog w) A (compareOp .In (.ref a) (.ref d)) Q E (sg s₀ h t) :=
  wpAny_in_heap (s := sg s₀ h t) (knd := tupleKind bk) (C.room (r := 1) hn (Nat.le_refl _) rfl) (hka.is S) hsys (dictAt S hm H hk) (hQ _)
theorem r_hnotin (C : Fx K A n g env L) (hn : n ≤ 100) (S : St g L h m l) (hm : (d, o) ∈ l) (H : DH (tupleKind bk) o xs) (hk : KeysL bk l xs) (hka : TupK bk l ks a) (hsys : (d == sysModules) = false)
    (hQ : ∀ t', Q (.bool (!(atKey xs ks).isSome)) (sg s₀ h t')) : wpAny (model prog w) A (compareOp .NotIn (.ref a) (.ref d)) Q E (sg s₀ h t) := by
  have h1 : wpAny (model prog w) A (compareOp .In (.ref a) (.ref d)) (fun v s => ∀ b, v = .bool b → Q (.bool (!b)) s) E (sg s₀ h t) :=
    r_hin C hn S hm H hk hka hsys fun t' b e => by injection e with e; subst e; exact hQ t'
  intro Γ p hΓ
  have h2 := h1 Γ p hΓ
  have h3 : Sem.wp (model prog w) Γ (contains (.ref d) (.ref a) >>= fun b => pure (Value.bool b)) (fun v _ s => ∀ b, v = .bool b → Q (.bool (!b)) s) (fun e _ s => E e s) p (sg s₀ h t) := h2
  show Sem.wp (model prog w) Γ (contains (.ref d) (.ref a) >>= fun b => pure (Value.bool (!b))) (fun v _ s => Q v s) (fun e _ s => E e s) p (sg s₀ h t)
  rw [Sem.wp_bind'] at h3 ⊢
  refine Sem.wp_mono _ Γ _ (fun b p1 s1 h4 => ?_) (fun _ _ _ z => z) p _ h3
  have h5 : ∀ b', Value.bool b = .bool b' → Q (.bool (!b')) s1 := h4
  exact h5 b rfl
theorem r_hget {value slice : Expr} {v : Value} {ka : Addr} (C : Fx K A n g env L) (hn : n ≤ 100) (S : St g L h m l) (hm : (d, o) ∈ l) (H : DH (tupleKind bk) o xs) (hk : KeysL bk l xs) (hka : TupK bk l ks a) (hv : atKey xs ks = some (ka, v))
    (hQ : ∀ t', Q v (sg s₀ h t')) (hs : subscripted slice false (.ref d) (.ref a) = operate [.ref d, .ref a] (getItem (.ref d) (.ref a))) :
    wpAny (model prog w) A (subscriptTail value slice (.ref d) (.ref a)) Q E (sg s₀ h t) :=
  tail_any (dictAt S hm H hk).typeIs slot_dict_getitem.lookup (wpAny_getItem_heap (s := sg s₀ h t) (knd := tupleKind bk) (C.room (r := 1) hn (Nat.le_refl _) rfl) (hka.is S) (dictAt S hm H hk) hv (hQ _)) hs
theorem storedH_keysL {v : Value} (hk : KeysL bk l xs) (hka : TupK bk l ks a) : KeysL bk l (storedH xs ks a v) := by
  intro x hx
  unfold storedH at hx
  split at hx
  · obtain ⟨y, hy, rfl⟩ := List.mem_map.mp hx
    unfold putAt
    split
    · exact hk y hy
    · exact hk y hy
  · rcases List.mem_append.mp hx with hx | hx
    · exact hk x hx
    · rw [List.mem_singleton.mp hx]; exact hka
theorem r_hset {v : Value} {Q : Unit → Shared → Prop} (C : Fx K A n g env L) (hn : n ≤ 100) (S : St g L h m l) (U : Spot d o l gl) (H : DH (tupleKind bk) o xs) (hk : KeysL bk l xs) (hka : TupK bk l ks a) (hz : xs.length ≤ 1000)
    (hQ : ∀ h' t' o', DH (tupleKind bk) o' (storedH xs ks a v) → St g L h' m (gl o') → Q () (sg s₀ h' t')) : wpAny (model prog w) A (setItem (.ref d) (.ref a) v) Q E (sg s₀ h t) :=
  wpAny_setItem_heap (s := sg s₀ h t) (knd := tupleKind bk) (hsz := by rw [sizeLine_eq]; omega) (C.room (r := 1) hn (Nat.le_refl _) rfl) (hka.is S) (dictAt S U.mem H hk) fun h' hd hs => by
    obtain ⟨o', ho', H'⟩ := DH.out hd
    exact hQ h' _ o' H' (S.put U hs ho')
theorem r_hpop {v : Value} {ka : Addr} (C : Fx K A n g env L) (hn : n ≤ 100) (S : St g L h m l) (U : Spot d o l gl) (H : DH (tupleKind bk) o xs) (hk : KeysL bk l xs) (hka : TupK bk l ks a) (hz : xs.length ≤ 1000) (hv : atKey xs ks = some (ka, v))
    (hQ : ∀ h' t' o', DH (tupleKind bk) o' (withoutH xs ks) → St g L h' m (gl o') → Q v (sg s₀ h' t')) : wpAny (model prog w) A (call (.builtin "dict.pop") [.ref d, .ref a]) Q E (sg s₀ h t) :=
  call_meetsIn PySem.F.slot_dict_pop (s := sg s₀ h t) (dictAt S U.mem H hk).typeIs PySem.F.entry_dict_pop (PySem.F.args_dict_pop_2 _ _) (pop_there (bk := bk) d a) ⟨(C.room (r := 1) hn (Nat.le_refl _) rfl), xs, ks, _, dictAt S U.mem H hk, hka.is S, hz, hv, fun h' t' hd hs => by
    obtain ⟨o', ho', H'⟩ := DH.out hd
    exact hQ h' _ o' H' (S.put U hs ho')⟩
theorem r_hpopD (C : Fx K A n g env L) (hn : n ≤ 100) (S : St g L h m l) (U : Spot d o l gl) (H : DH (tupleKind bk) o xs) (hk : KeysL bk l xs) (hka : TupK bk l ks a) (hz : xs.length ≤ 1000) (hsys : (d == sysModules) = false)
    (hQ : ∀ v h' t' o', DH (tupleKind bk) o' (withoutH xs ks) → St g L h' m (gl o') → Q v (sg s₀ h' t')) : wpAny (model prog w) A (call (.builtin "dict.pop") [.ref d, .ref a, .none]) Q E (sg s₀ h t) :=
  call_meetsIn PySem.F.slot_dict_pop (s := sg s₀ h t) (dictAt S U.mem H hk).typeIs PySem.F.entry_dict_pop (PySem.F.args_dict_pop_3 _ _ _) (pop_dflt (bk := bk) d a hsys) ⟨(C.room (r := 1) hn (Nat.le_refl _) rfl), xs, ks, dictAt S U.mem H hk, hka.is S, hz, fun v h' t' hd hs => by
    obtain ⟨o', ho', H'⟩ := DH.out hd
    exact hQ v h' _ o' H' (S.put U hs ho')⟩
theorem r_hget2 {v : Value} (C : Fx K A n g env L) (hn : n ≤ 100) (S : St g L h m l) (hm : (d, o) ∈ l) (H : DH (tupleKind bk) o xs) (hk : KeysL bk l xs) (hka : TupK bk l ks a) (hsys : (d == sysModules) = false)
    (hQ : ∀ t', Q (((atKey xs ks).map (·.2)).getD v) (sg s₀ h t')) : wpAny (model prog w) A (call (.builtin "dict.get") [.ref d, .ref a, v]) Q E (sg s₀ h t) :=
  call_meetsIn PySem.F.slot_dict_get (s := sg s₀ h t) (dictAt S hm H hk).typeIs PySem.F.entry_dict_get (PySem.F.args_dict_get_3 _ _ _) (meetsH_dict_get_default (tupleKind bk) d a hsys v) ⟨(C.room (r := 1) hn (Nat.le_refl _) rfl), ks, xs, hka.is S, dictAt S hm H hk, hQ _⟩
theorem r_dmeth {name : Str} {id : String} {pl : Sem Bool} {Q : Value × List Value → Shared → Prop} (S : St g L h m l) (hm : (d, o) ∈ l) (H : DH (tupleKind bk) o xs) (slot : Slot "dict" name id) (hty : typeOf (.builtin id) = pure (.type "method_descriptor"))
    (hQ : Q (.builtin id, [.ref d]) (sg s₀ h t)) : wpAny (model prog w) A (getMethod (.ref d) name pl) Q E (sg s₀ h t) :=
  getMethod_builtin (s := sg s₀ h t) ⟨o, S.get hm, H.1.1⟩ PySem.F.plainAttrs_dict slot hty (fun b e => by injection e with e; subst e; exact ⟨o, S.get hm, H.1.2.1⟩) hQ
end
end Mine

namespace Mine
noncomputable def Stk (T : List (Addr × Obj)) (xs : List (List UInt8 × List UInt8)) (us : List Value) : Prop := Paired (fun p v => TupIn Bt T [p.1, p.2] v) xs us
theorem Stk.mono {T T' : List (Addr × Obj)} {xs us} (h : Stk T xs us) (hs : ∀ p ∈ T, p ∈ T') : Stk T' xs us := Paired.imp (fun _ _ x => x.mono hs) h
theorem Stk.tail {T : List (Addr × Obj)} {xs us} (h : Stk T xs us) : Stk T xs.tail us.tail := by cases h with | nil => exact .nil | cons _ r => exact r
theorem Stk.dropLast {T : List (Addr × Obj)} : ∀ {xs us}, Stk T xs us → Stk T xs.dropLast us.dropLast := by
  intro xs us h
  induction h with
  | nil => exact .nil
  | cons a r ih => cases r with
    | nil => exact .nil
    | cons b r => exact .cons a ih
theorem Stk.last {T : List (Addr × Obj)} : ∀ {xs us}, Stk T xs us → ∀ (h0 : us ≠ []) , ∃ p, xs.getLast? = some p ∧ TupIn Bt T [p.1, p.2] (us.getLast h0) := by
  intro xs us h
  induction h with
  | nil => exact fun h0 => absurd rfl h0
  | cons a r ih =>
    intro h0
    cases r with
    | nil => exact ⟨_, rfl, a⟩
    | cons b r => exact ih (List.cons_ne_nil _ _)

theorem Stk.push {T : List (Addr × Obj)} {xs us} (h : Stk T xs us) {tp : Addr} {a b : List UInt8} {ta tb : Tok} (hm : (tp, tupO [.bytes a.toArray ta, .bytes b.toArray tb]) ∈ (tp, tupO [.bytes a.toArray ta, .bytes b.toArray tb]) :: T) :
    Stk ((tp, tupO [.bytes a.toArray ta, .bytes b.toArray tb]) :: T) (xs ++ [(a, b)]) (us ++ [.ref tp]) :=
  Paired.snoc (h.mono fun _ => .tail _) ⟨_, _, rfl, hm, .cons ⟨_, rfl⟩ (.cons ⟨_, rfl⟩ .nil)⟩

theorem Stk.are {g h : Heap} {L : Addr} {m : Str → Option Value} {l T : List (Addr × Obj)} (S : St g L h m l) (hT : ∀ p ∈ T, p ∈ l) : ∀ {xs us}, Stk T xs us → Paired ((tupE bytesE).is h) (xs.map fun p => [p.1, p.2]) us := by
  intro xs us h
  induction h with
  | nil => exact .nil
  | cons a r ih => exact .cons ((a.mono hT).is bt_is S) ih
theorem bt_refl {h : Heap} (x : List UInt8) (t : Tok) : bytesE.is h x (.bytes x.toArray t) := ⟨_, rfl⟩
theorem Stk.right {T : List (Addr × Obj)} {xs us} (h : Stk T xs us) (i : Nat) {p : List UInt8 × List UInt8} (hp : xs[i]? = some p) : ∃ v, us[i]? = some v ∧ TupIn Bt T [p.1, p.2] v := by
  have hl := Paired.length h
  have hi : i < us.length := by
    rw [← hl]
    rcases Nat.lt_or_ge i xs.length with q | q
    · exact q
    · rw [List.getElem?_eq_none q] at hp; cases hp
  obtain ⟨q, hq, hf⟩ := paired_get h i hi
  rw [hp] at hq
  injection hq with hq
  subst hq
  exact ⟨us[i], by simp [hi], hf⟩
section
variable {prog : Program} {w : World} {K : Frag} {A : Around} {E : Value → Shared → Prop} {n : Nat} {g h : Heap} {env : Env} {L : Addr} {m : Str → Option Value} {l : List (Addr × Obj)} {s₀ : Shared} {t : Nat} {Q : Value → Shared → Prop} {κ : Type} [DecidableEq κ]
theorem r_inP (e : EK κ) (C : Fx K A n g env L) (hn : n ≤ 100) (he : e.room ≤ 5) {D : Addr} {us : Array Value} {xs : List κ} {x : κ} {v : Value} {j : Nat} (S : St g L h m l) (ha : (D, listOf us j) ∈ l) (hu : Paired (e.is h) xs us.toList) (hv : e.is h x v)
    (h1 : x ∈ xs → Q (.bool true) (sg s₀ h t)) (h2 : x ∉ xs → Q (.bool false) (sg s₀ h t)) : wpAny (model prog w) A (compareOp .In v (.ref D)) Q E (sg s₀ h t) := by
  refine r_inL e C hn he S ha hu hv ?_
  by_cases q : x ∈ xs
  · rw [decide_eq_true q]; exact h1 q
  · rw [decide_eq_false q]; exact h2 q
theorem r_notInP (e : EK κ) (C : Fx K A n g env L) (hn : n ≤ 100) (he : e.room ≤ 5) {D : Addr} {us : Array Value} {xs : List κ} {x : κ} {v : Value} {j : Nat} (S : St g L h m l) (ha : (D, listOf us j) ∈ l) (hu : Paired (e.is h) xs us.toList) (hv : e.is h x v)
    (h1 : x ∈ xs → Q (.bool false) (sg s₀ h t)) (h2 : x ∉ xs → Q (.bool true) (sg s₀ h t)) : wpAny (model prog w) A (compareOp .NotIn v (.ref D)) Q E (sg s₀ h t) := by
  refine r_notInL e C hn he S ha hu hv ?_
  by_cases q : x ∈ xs
  · rw [decide_eq_true q]; exact h1 q
  · rw [decide_eq_false q]; exact h2 q
end
/-- the numbers by the links -/
noncomputable def Nums {prog : Program} {w : World} (T : List (Addr × Obj)) (xs : List (List UInt8 × List UInt8)) (kv : List (List (List UInt8) × Addr × Value)) : Prop :=
  kv.length = xs.length ∧ ∀ (i : Nat) x, kv[i]? = some x → ∃ p t, xs[i]? = some p ∧ x.1 = [p.1, p.2] ∧ TupK (bytesKind prog w) T x.1 x.2.1 ∧ x.2.2 = Value.int ((i : Int) + 1) t
section
variable {prog : Program} {w : World} {T : List (Addr × Obj)} {xs : List (List UInt8 × List UInt8)} {kv : List (List (List UInt8) × Addr × Value)} {wo ad : List UInt8}
theorem Nums.keys (hv : Nums (prog := prog) (w := w) T xs kv) : KeysL (bytesKind prog w) T kv := fun x hx => by
  obtain ⟨i, hi⟩ := List.mem_iff_getElem?.mp hx
  obtain ⟨p, t, _, _, hk, _⟩ := hv.2 i x hi
  exact hk
theorem Nums.found (hv : Nums (prog := prog) (w := w) T xs kv) (hn : (kv.map (·.1)).Nodup) (hm : (wo, ad) ∈ xs) : ∃ ka t, atKey kv [wo, ad] = some (ka, .int ((xs.idxOf (wo, ad) : Int) + 1) t) := by
  have hi : xs.idxOf (wo, ad) < kv.length := by rw [hv.1]; exact List.idxOf_lt_length_of_mem hm
  have hx : kv[xs.idxOf (wo, ad)]? = some kv[xs.idxOf (wo, ad)] := by simp [hi]
  obtain ⟨p, t, hp, hk, _, hval⟩ := hv.2 _ _ hx
  have hp2 : xs[xs.idxOf (wo, ad)]? = some (wo, ad) := by
    rw [List.getElem?_eq_getElem (List.idxOf_lt_length_of_mem hm), List.getElem_idxOf]
  rw [hp2] at hp
  injection hp with hp
  subst hp
  refine ⟨kv[xs.idxOf (wo, ad)].2.1, t, ?_⟩
  refine atKey_of_get hn (i := xs.idxOf (wo, ad)) ?_
  rw [hx, ← hk, ← hval]
theorem Nums.missing (hv : Nums (prog := prog) (w := w) T xs kv) (hm : (wo, ad) ∉ xs) : atKey kv [wo, ad] = none := by
  refine atKey_none_of_get fun j p hj => ?_
  obtain ⟨q, t, hq, hk, _⟩ := hv.2 j _ hj
  refine hm ?_
  simp only [List.cons.injEq, and_true] at hk
  have : q = (wo, ad) := Prod.ext hk.1.symm hk.2.symm
  subst this
  exact List.mem_of_getElem? hq
theorem Nums.mono {T' : List (Addr × Obj)} (hv : Nums (prog := prog) (w := w) T xs kv) (hs : ∀ p ∈ T, p ∈ T') : Nums (prog := prog) (w := w) T' xs kv := by
  refine ⟨hv.1, fun i x hx => ?_⟩
  obtain ⟨p, t, a, b, c, d⟩ := hv.2 i x hx
  exact ⟨p, t, a, b, c.mono hs, d⟩
theorem Nums.push {a : Addr} {t : Tok} (hv : Nums (prog := prog) (w := w) T xs kv) (hm : (wo, ad) ∉ xs) (hk : TupK (bytesKind prog w) T [wo, ad] a) : Nums (prog := prog) (w := w) T (xs ++ [(wo, ad)]) (storedH kv [wo, ad] a (.int ((xs.length : Int) + 1) t)) := by
  rw [storedH_new (hv.missing hm)]
  refine ⟨by simp [hv.1], fun i x hx => ?_⟩
  rcases Nat.lt_trichotomy i kv.length with q | q | q
  · rw [List.getElem?_append_left q] at hx
    obtain ⟨p, t, h1, r⟩ := hv.2 i x hx
    exact ⟨p, t, by rw [List.getElem?_append_left (by rw [← hv.1]; exact q)]; exact h1, r⟩
  · subst q
    simp only [List.getElem?_concat_length, Option.some.injEq] at hx
    subst hx
    refine ⟨(wo, ad), t, ?_, rfl, hk, ?_⟩
    · rw [hv.1]; simp
    · rw [hv.1]
  · rw [List.getElem?_eq_none (by simp; omega)] at hx; cases hx
theorem DH.nodup {κ : Type} [DecidableEq κ] {knd : HeapKind prog w κ} {o : Obj} {ys : List (κ × Addr × Value)} (H : DH knd o ys) : (ys.map (·.1)).Nodup := by
  obtain ⟨_, _, _, _, _, hn⟩ := H
  exact hn
theorem tupK_bytes {l : List (Addr × Obj)} {a : Addr} {x y : List UInt8} {t u : Tok} (hm : (a, tupO [.bytes x.toArray t, .bytes y.toArray u]) ∈ l) : TupK (bytesKind prog w) l [x, y] a :=
  ⟨_, hm, .cons (bytesKind_is prog w x t) (.cons (bytesKind_is prog w y u) .nil)⟩
end
end Mine

namespace Mine

theorem and_zero : ∀ (k : Nat) (x y : Int), 0 ≤ y → y < 2 ^ k → Builtin.bitAnd (x * 2 ^ k) y = 0 := by
  intro k
  induction k with
  | zero =>
    intro x y h0 h1
    have e : y = 0 := by simp at h1; omega
    subst e
    have := bitAnd_range (x * 2 ^ 0) (Int.le_refl 0)
    omega
  | succ k ih =>
    intro x y h0 h1
    have e2 : x * 2 ^ (k + 1) = 2 * (x * 2 ^ k) := by rw [Int.pow_succ]; rw [← Int.mul_assoc]; omega
    have h2 : y / 2 < 2 ^ k := by rw [Int.pow_succ] at h1; omega
    rw [kbt_halves, e2, show 2 * (x * 2 ^ k) / 2 = x * 2 ^ k by omega, ih x (y / 2) (by omega) h2]
    rw [if_neg (by omega)]
    rfl
theorem or_add (k : Nat) (x y : Int) (h0 : 0 ≤ y) (h1 : y < 2 ^ k) : Builtin.bitOr (x * 2 ^ k) y = x * 2 ^ k + y := by
  rw [bitOr_and, and_zero k x y h0 h1]; omega
theorem rgb_eq (a b c : Int) (hb : 0 ≤ b) (hb' : b < 256) (hc : 0 ≤ c) (hc' : c < 256) : Builtin.bitOr (Builtin.bitOr (a * 2 ^ 16) (b * 2 ^ 8)) c = 65536 * a + 256 * b + c := by
  rw [or_add 16 a (b * 2 ^ 8) (by omega) (by omega)]
  rw [show a * 2 ^ 16 + b * 2 ^ 8 = (a * 256 + b) * 2 ^ 8 by omega, or_add 8 _ c hc (by omega)]
  omega
/-- the cube's and the grays' colours -/
noncomputable def lev (i : Int) : Int := ([0, 95, 135, 175, 215, 255] : List Int).getD i.toNat 0
theorem lev_bd (i : Int) : 0 ≤ lev i ∧ lev i < 256 := by
  unfold lev
  generalize i.toNat = n
  rcases n with _ | _ | _ | _ | _ | _ | n <;> first | exact ⟨by decide, by decide⟩ | exact (⟨Int.le_refl 0, by decide⟩ : (0 : Int) ≤ 0 ∧ (0 : Int) < 256)
noncomputable def palI (i : Int) : Int := if i ≥ 232 then (8 + 10 * (i - 232)) * 65793 else 65536 * lev ((i - 16).fdiv 36) + 256 * lev (((i - 16).fdiv 6).fmod 6) + lev ((i - 16).fmod 6)
noncomputable def intV : Value → Int | .int i _ => i | _ => 0
theorem intV_int (i : Int) (t : Tok) : intV (.int i t) = i := rfl
noncomputable def isIntV : Value → Bool | .int _ _ => true | _ => false

section
variable {prog : Program} {w : World} {K : Frag} {A : Around} {n : Nat} {g h : Heap} {env : Env} {L : Addr} {m : Str → Option Value} {l : List (Addr × Obj)} {s₀ : Shared} {t : Nat}
/-- an item of a written tuple of ints -/
theorem r_menuI {E : Value → Shared → Prop} {Q : Value → Shared → Prop} {a : Addr} {its : List Value} {dd : Option Addr} {sl : Array (Option Value)} {c : Nat} {value slice : Expr} {k : Int} {u : Tok} (C : Fx K A n g env L) (S : St g L h m l) (hl : K.lookup a = some ⟨.type "tuple", dd, .seq its.toArray c, sl⟩)
    (hb : its.all isIntV = true) (h0 : 0 ≤ k) (h1 : k < its.length) (hhi : its.length < 1000) (hQ : ∀ tk, Q (.int ((its.map intV).getD k.toNat 0) tk) (sg s₀ h t))
    (hs : subscripted slice false (.ref a) (.int k u) = operate [.ref a, .int k u] (getItem (.ref a) (.int k u)) := by with_unfolding_all rfl) :
    wpAny (model prog w) A (subscriptTail value slice (.ref a) (.int k u)) Q E (sg s₀ h t) := by
  have hk : k.toNat < its.length := by omega
  have e : (its.map intV).getD k.toNat 0 = intV its[k.toNat] := by simp [List.getD, hk]
  rw [e] at hQ
  refine r_itemK (v := its[k.toNat]) C S hl h0 (by omega) (by simp [hk]) ?_ hs
  have := List.all_eq_true.mp hb _ (List.getElem_mem hk)
  revert this hQ
  cases its[k.toNat] <;> intro hQ this <;> first | cases this | skip
  exact hQ _
end

/-! keys of words and numbers -/
noncomputable def isSI : Str ⊕ Int → Value → Bool
  | .inl x, v => Value.isStrOf x v
  | .inr i, v => Value.isInt i v
theorem isSI_si {x : Str ⊕ Int} {v : Value} (h : isSI x v = true) : SI x v := by
  cases x with
  | inl x => exact Value.isStrOf_shape h
  | inr i => exact Value.isInt_shape h
theorem si_eq {A : Around} {s : Shared} {x y : Str ⊕ Int} {u v : Value} (hx : SI x u) (hy : SI y v) : SeqAt.EqAt A s u v (decide (x = y)) := by
  cases x <;> cases y <;> (obtain ⟨t, rfl⟩ := hx; obtain ⟨t', rfl⟩ := hy)
  · rename_i a b
    have := SeqAt.EqAt.str_str (A := A) (s := s) a t b t'
    rwa [show (a == b) = decide (Sum.inl (β := Int) a = Sum.inl b) by by_cases e : a = b <;> simp [e]] at this
  · simpa using SeqAt.EqAt.str_int (A := A) (s := s) _ t _ t'
  · simpa using SeqAt.EqAt.int_str (A := A) (s := s) _ t _ t'
  · rename_i a b
    have := SeqAt.EqAt.int_int (A := A) (s := s) a t b t'
    rwa [show (a == b) = decide (Sum.inr (α := Str) a = Sum.inr b) by by_cases e : a = b <;> simp [e]] at this
noncomputable def siKind (prog : Program) (w : World) : PySem.KeyKind prog w (Str ⊕ Int) where
  is := isSI
  hash := fun x => match x with | .inl x => hashStr w x | .inr i => hashInt i
  inj := fun v a b ha hb => by
    have ha := isSI_si ha
    have hb := isSI_si hb
    cases a <;> cases b <;> (obtain ⟨t, rfl⟩ := ha; obtain ⟨u, e⟩ := hb; injection e) <;> (subst_vars; rfl)
  byValue := fun k v h => by
    have h := isSI_si h
    cases k <;> obtain ⟨t, rfl⟩ := h <;> rfl
  pyHash := fun {A E s k v Q} hv h => by
    cases k with
    | inl x => exact (strKind prog w).pyHash (k := x) hv h
    | inr i => exact (intKind prog w).pyHash (k := i) hv h
  eqBool := fun {A E s a b u v Q} hu hv h => si_eq (isSI_si hu) (isSI_si hv) _ _ _ _ h
  «strs» := fun k x t v h => by
    cases k with
    | inl y => exact (strKind prog w).strs y x t v h
    | inr i => exact (intKind prog w).strs i x t v h
end Mine

namespace Mine

/-! walking a dict's own entries, whatever its keys are -/
noncomputable def RawD (h : Heap) (d : Addr) (es : Array DictEntry) (ep : Nat) : Prop := ∃ o, h.get? d = some o ∧ o.ExactDict ∧ o.data = .dict es ep
theorem RawD.typeIs {s : Shared} {d : Addr} {es : Array DictEntry} {ep : Nat} (x : RawD s.heap d es ep) : s.TypeIs (.ref d) "dict" := let ⟨o, ho, hc, _⟩ := x; ⟨o, ho, hc.1⟩
theorem RawD.at' {h h' : Heap} {d : Addr} {es : Array DictEntry} {ep : Nat} (x : RawD h d es ep) (e : ∀ o, h.get? d = some o → h'.get? d = some o) : RawD h' d es ep := let ⟨o, ho, r⟩ := x; ⟨o, e _ ho, r⟩
section
variable {prog : Program} {w : World} {A : Around} {E : Value → Shared → Prop} {s : Shared}
theorem raw_iter {d : Addr} {es : Array DictEntry} {ep : Nat} {Q : Value → Shared → Prop} (hsys : (d == sysModules) = false) (hm : RawD s.heap d es ep)
    (hQ : Q (.ref s.heap.objs.size) { s with heap := s.heap.push { cls := .type "dict_keyiterator", data := .fields #[.ref d, .int 0 0, .int es.size 0, .int ep 0] } }) :
    wpAny (model prog w) A (pyIter (.ref d)) Q E s := by
  obtain ⟨o, ho, hc, hdat⟩ := id hm
  have hT := hm.typeIs
  refine wpAny_pyIter_slot hT PySem.F.slot_dict_iter (wpAny_call_entry PySem.F.slot_dict_iter hT PySem.F.entry_dict_iter ?_ (PySem.F.args_dict_iter_1 _))
  unfold Builtin.«dict.__iter__»
  refine wpAny_bind ?_
  unfold Builtin.Dict.dictSlotNone
  refine wpAny_bind (wpAny_notOrdered_dict hT ?_)
  show wpAny _ _ (pure (Value.ref d)) _ _ s
  refine wpAny_pure ?_
  show wpAny _ _ (Builtin.Dict.showsAll d >>= _) _ _ s
  unfold Builtin.Dict.showsAll
  rw [if_neg (by rw [hsys]; exact Bool.false_ne_true)]
  refine wpAny_bind (wpAny_pure ?_)
  refine wpAny_bind (wpAny_dictEntries ho hdat ?_)
  refine wpAny_bind (wpAny_dictEpoch ho hdat ?_)
  refine wpAny_bind (wpAny_newObj_type (wpAny_pure ⟨_, rfl, "dict_keyiterator", _, ⟨_, Heap.get?_push_size _ rfl, rfl⟩, PySem.F.slot_dict_keyiterator_next.lookup, ?_⟩))
  simpa [rawInt] using hQ
theorem raw_next {it d : Addr} {i ep : Nat} {es : Array DictEntry} {Q : Option Value → Shared → Prop} (hit : s.heap.IsKeyIter it d i es.size ep) (hm : RawD s.heap d es ep) (hlt : i < es.size)
    (hQ : ∀ h', h'.IsKeyIter it d (i + 1) es.size ep → Heap.SameBut it s.heap h' → Q (some es[i].key) { s with heap := h' }) :
    wpAny (model prog w) A (pyNext (.ref it)) Q E s := by
  obtain ⟨o, ho, hc, hd⟩ := id hit
  obtain ⟨od, hod, hcd, hdd⟩ := id hm
  unfold pyNext
  refine wpAny_bind (wpAny_attempt (wpAny_callSpecial?_slot (name := Str.ofString "__next__") hit.typeIs PySem.F.slot_dict_keyiterator_next
    (wpAny_call_entry PySem.F.slot_dict_keyiterator_next hit.typeIs PySem.F.entry_dict_keyiterator_next ?_ (PySem.F.args_dict_keyiterator_next_1 _))))
  refine noE (foldQ fun q hq => ?_)
  refine wpAny_bind (wpAny_pure ?_)
  refine wpAny_bind ?_
  refine wpAny_bind ?_
  first | refine wpAny_bind (wpAny_typeNameOfWhole_keyiter hit.typeIs (wpAny_pure ?_)) | refine wpAny_bind (wpAny_typeNameOf_keyiter hit.typeIs (wpAny_pure ?_))
  refine wpAny_bind (wpAny_fieldsOf ho hd ?_)
  have hown : Builtin.Dict_items.ownsTuple "dict_keyiterator" = false := by decide
  rw [if_neg (show ¬ (Builtin.Dict_items.ownsTuple "dict_keyiterator" = true) from by rw [hown]; exact Bool.false_ne_true)]
  show wpAny _ _ (if (Value.ref d == Value.none) = true then _ else _) _ _ s
  rw [if_neg (show ¬ ((Value.ref d == Value.none) = true) from Bool.false_ne_true)]
  refine wpAny_bind (wpAny_pure ?_)
  refine wpAny_bind (wpAny_dictEntries hod hdd ?_)
  rw [if_neg (by simp)]
  refine wpAny_bind (wpAny_pure ?_)
  refine wpAny_bind (wpAny_dictEpoch hod hdd ?_)
  rw [if_neg (by simp)]
  refine wpAny_pure ?_
  dsimp only
  rw [if_neg (show ¬ ((i : Int) < 0) from Int.not_lt.mpr (Int.natCast_nonneg _)), Int.toNat_natCast, Array.getElem?_eq_getElem hlt]
  dsimp only
  refine wpAny_bind ?_
  first | refine wpAny_bind (wpAny_typeNameOfWhole_keyiter hit.typeIs (wpAny_pure ?_)) | refine wpAny_bind (wpAny_typeNameOf_keyiter hit.typeIs (wpAny_pure ?_))
  refine wpAny_bind (wpAny_isOneOf_keyiter hit.typeIs ?_)
  show wpAny _ _ (setField (.ref it) 1 (rawInt ((i : Int) + 1)) >>= _) _ _ s
  refine wpAny_bind (wpAny_setField ho hd (by simp) ?_)
  have hit' : (s.heap.update it (Obj.mapFields (·.setIfInBounds 1 (rawInt ((i : Int) + 1))))).IsKeyIter it d (i + 1) es.size ep :=
    ⟨_, Heap.get?_update_self _ ho (Obj.isFreed_of_fields (Obj.data_mapFields hd _)), (Obj.cls_mapFields ..).trans hc, by rw [Obj.data_mapFields hd]; simp [rawInt]⟩
  refine wpAny_bind (wpAny_holding ?_)
  refine wpAny_bind (wpAny_isOneOf_keyiter (s := { s with heap := s.heap.update it (Obj.mapFields (·.setIfInBounds 1 (rawInt ((i : Int) + 1)))) }) hit'.typeIs ?_)
  show wpAny _ _ (pure es[i].key) _ _ _
  exact wpAny_pure (wpAny_pure (hq _ _ ⟨_, rfl, wpAny_pure (hQ _ hit' (Heap.SameBut.update ..))⟩))
theorem raw_end {it d : Addr} {ep : Nat} {es : Array DictEntry} {Q : Option Value → Shared → Prop} (hh : A.handled = none) (hit : s.heap.IsKeyIter it d es.size es.size ep) (hm : RawD s.heap d es ep)
    (hQ : ∀ h', Heap.ExtBut it s.heap h' → Q none { s with heap := h' }) : wpAny (model prog w) A (pyNext (.ref it)) Q E s := by
  obtain ⟨o, ho, hc, hd⟩ := id hit
  obtain ⟨od, hod, hcd, hdd⟩ := id hm
  unfold pyNext
  refine wpAny_bind (wpAny_attempt (wpAny_callSpecial?_slot (name := Str.ofString "__next__") hit.typeIs PySem.F.slot_dict_keyiterator_next
    (wpAny_call_entry PySem.F.slot_dict_keyiterator_next hit.typeIs PySem.F.entry_dict_keyiterator_next ?_ (PySem.F.args_dict_keyiterator_next_1 _))))
  refine foldE fun ee hee => foldQ fun q hq => ?_
  refine wpAny_bind (wpAny_pure ?_)
  refine wpAny_bind ?_
  refine wpAny_bind ?_
  first | refine wpAny_bind (wpAny_typeNameOfWhole_keyiter hit.typeIs (wpAny_pure ?_)) | refine wpAny_bind (wpAny_typeNameOf_keyiter hit.typeIs (wpAny_pure ?_))
  refine wpAny_bind (wpAny_fieldsOf ho hd ?_)
  have hown : Builtin.Dict_items.ownsTuple "dict_keyiterator" = false := by decide
  rw [if_neg (show ¬ (Builtin.Dict_items.ownsTuple "dict_keyiterator" = true) from by rw [hown]; exact Bool.false_ne_true)]
  show wpAny _ _ (if (Value.ref d == Value.none) = true then _ else _) _ _ s
  rw [if_neg (show ¬ ((Value.ref d == Value.none) = true) from Bool.false_ne_true)]
  refine wpAny_bind (wpAny_pure ?_)
  refine wpAny_bind (wpAny_dictEntries hod hdd ?_)
  rw [if_neg (by simp)]
  refine wpAny_bind (wpAny_pure ?_)
  refine wpAny_bind (wpAny_dictEpoch hod hdd ?_)
  rw [if_neg (by simp)]
  refine wpAny_pure ?_
  dsimp only
  rw [if_neg (show ¬ ((es.size : Int) < 0) from Int.not_lt.mpr (Int.natCast_nonneg _)), Int.toNat_natCast, Array.getElem?_eq_none (Nat.le_refl es.size)]
  dsimp only
  refine wpAny_bind ?_
  first | refine wpAny_bind (wpAny_typeNameOfWhole_keyiter hit.typeIs (wpAny_pure ?_)) | refine wpAny_bind (wpAny_typeNameOf_keyiter hit.typeIs (wpAny_pure ?_))
  show wpAny _ _ (setField (.ref it) 0 .none >>= _) _ _ s
  refine wpAny_bind (wpAny_setField ho hd (by simp) ?_)
  show wpAny _ _ (newExc (.type "StopIteration") [] >>= _) _ _ _
  refine wpAny_bind ?_
  simp -iota only [newExc, newTuple]
  refine wpAny_bind (wpAny_newObj_type ?_ (by size_fits))
  refine wpAny_bind (m := firstArgMember _ _) (wpAny_of_eq (a := Value.none) (by first | rfl | (simp -iota only [firstArgMember]; rfl)) ?_)
  refine wpAny_newObj_type ?_ (by size_fits)
  simp -iota only [raiseNew]
  refine wpAny_bind (wpAny_handled ?_)
  rw [show A.in1.handled = none from hh]
  refine wpAny_bind (wpAny_pure (wpAny_throw (hee _ _ ?_)))
  refine wpAny_bind (wpAny_isInstance (T := "StopIteration") (b := true) ⟨_, Heap.get?_push_size _ rfl, rfl⟩ isSubtype_stop ?_)
  exact wpAny_pure (hQ _ (((Heap.SameBut.update ..).extBut.push _).push _))
theorem raw_walks (hh : A.handled = none) (I d : Addr) (hne : d ≠ I) (es : Array DictEntry) (ep : Nat) :
    Walks prog w A I [I, d] [I] es.size (fun i v => ∃ e, es[i]? = some e ∧ v = e.key) (fun i h => h.IsKeyIter I d i es.size ep ∧ RawD h d es ep) where
  sub := fun b hb => by simp at hb; simp [hb]
  frame := fun _ _ _ st hk => ⟨st.1.at fun o e => hk I (by simp) o e, st.2.at' fun o e => hk d (by simp) o e⟩
  item := fun i s Q E hi st hQ => by
    refine raw_next st.1 st.2 hi fun h' hit' hs' => ?_
    exact hQ _ h' s.toks ⟨es[i], by simp [hi], rfl⟩ ⟨hit', st.2.at' fun o e => hs'.extBut d o hne e⟩ fun b o hb e => hs'.extBut b o (fun h => hb (by simp [h])) e
  done := fun s Q E st hQ => raw_end hh st.1 st.2 fun h' he' => hQ h' s.toks fun b o hb e => he' b o (fun h => hb (by simp [h])) e
  self := fun _ _ _ _ st hQ => wpAny_pyIter_keyiter st.1 hQ
theorem raw_src (d : Addr) (es : Array DictEntry) (ep : Nat) (hsys : (d == sysModules) = false) : KdlSrc prog w "dict" d d es.size (fun i v => ∃ e, es[i]? = some e ∧ v = e.key) (fun h => RawD h d es ep) where
  type := fun _ x => x.typeIs
  there := fun h x => let ⟨_, ho, _⟩ := x; ⟨Heap.lt_size ho, Heap.lt_size ho⟩
  keep := fun h h' x k => x.at' fun o e => k d (.inl rfl) o e
  notList := by decide
  notTuple := by decide
  hint := fun _ _ _ _ hm hq => kdl_hint_dict hm.typeIs hq
  iter := fun A s hh hm => ⟨_, _, (fun _ _ hq => raw_iter hsys hm hq), raw_walks hh _ d (Nat.ne_of_lt (let ⟨_, ho, _⟩ := hm; Heap.lt_size ho)) es ep, ⟨⟨_, Heap.get?_push_size _ rfl, rfl, rfl⟩, hm.at' fun o e => Heap.get?_push_of_some _ e⟩⟩
end

/-! the keys of a dict of the ledger -/
section
variable {prog : Program} {w : World} {K : Frag} {A : Around} {E : Value → Shared → Prop} {n : Nat} {g h : Heap} {env : Env} {L : Addr} {m : Str → Option Value} {l : List (Addr × Obj)} {s₀ : Shared} {t : Nat} {Q : Value → Shared → Prop}
variable {κ : Type} [DecidableEq κ] {knd : HeapKind prog w κ} {d : Addr} {o : Obj} {xs : List (κ × Addr × Value)}
theorem DH.raw (H : DH knd o xs) : ∃ (es : Array DictEntry) (ep : Nat), o.data = .dict es ep ∧ es.size = xs.length ∧ ∀ (i : Nat) (e : DictEntry), es[i]? = some e → ∃ x : κ × Addr × Value, xs[i]? = some x ∧ e.key = PySem.Value.ref x.2.1 := by
  obtain ⟨hc, es, ep, hd, he, hn⟩ := H
  refine ⟨es, ep, hd, size_of_entries he, fun i e hi => ?_⟩
  have h1 : es.toList[i]? = some e := by rw [Array.getElem?_toList]; exact hi
  rw [he, List.getElem?_map] at h1
  cases hx : xs[i]? with
  | none => rw [hx] at h1; cases h1
  | some x =>
    rw [hx] at h1
    injection h1 with h1
    exact ⟨x, rfl, by rw [← h1]; rfl⟩
theorem keys_are {xs : List (κ × Addr × Value)} {vs : List Value} (hl : vs.length = xs.length) (h : ∀ (j : Nat) (v : Value), vs[j]? = some v → ∃ x, xs[j]? = some x ∧ v = PySem.Value.ref x.2.1) : vs = xs.map fun x => PySem.Value.ref x.2.1 := by
  refine List.ext_getElem? fun j => ?_
  rw [List.getElem?_map]
  cases hv : vs[j]? with
  | none =>
    rw [List.getElem?_eq_none_iff] at hv
    rw [List.getElem?_eq_none (by omega)]
    rfl
  | some v =>
    obtain ⟨x, hx, rfl⟩ := h j v hv
    rw [hx]; rfl
theorem r_keysOf (C : Fx K A n g env L) (S : St g L h m l) (hm : (d, o) ∈ l) (H : DH knd o xs) (hsys : (d == sysModules) = false) (hz : xs.length ≤ 1000)
    (hQ : ∀ D c h' t', St g L h' m ((D, listOf (xs.map fun x => PySem.Value.ref x.2.1).toArray c) :: l) → Q (.ref D) (sg s₀ h' t')) : wpAny (model prog w) A (call (.type "list") [.ref d]) Q E (sg s₀ h t) := by
  obtain ⟨es, ep, hd, hsz, hk⟩ := H.raw
  have hraw : RawD h d es ep := ⟨o, S.get hm, H.1, hd⟩
  refine kdl_N (s := sg s₀ h t) (raw_src d es ep hsys) C.hnd S.F S.N hraw (by rw [sizeLine_eq]; omega) fun D c h' tk vs F' N' l1 hl hv => ?_
  have e : vs = xs.map fun x => PySem.Value.ref x.2.1 := keys_are (by omega) fun j v hj => by
    obtain ⟨e, he, rfl⟩ := hv j v hj
    exact hk j e he
  subst e
  exact hQ D c h' tk (S.pushed F' N' l1)
end
end Mine

namespace Mine

/-! the sort's tree asks of items only, and ends in items only -/
noncomputable def Safe {α : Type} (n : Nat) (P : α → Prop) : KasT α → Prop
  | .ret a => P a
  | .ask i j k => i < n ∧ j < n ∧ ∀ b, Safe n P (k b)
theorem Safe.bind {α β : Type} {n : Nat} {P : α → Prop} {P' : β → Prop} {f : α → KasT β} (hf : ∀ a, P a → Safe n P' (f a)) : ∀ (t : KasT α), Safe n P t → Safe n P' (t.bind f) := by
  intro t
  induction t with
  | ret a => exact fun h => hf a h
  | ask _ _ k ih => exact fun h => ⟨h.1, h.2.1, fun b => ih b (h.2.2 b)⟩
theorem Safe.wp {α : Type} {n : Nat} {P : α → Prop} {cmp : Nat → Nat → (Bool → Shared → Prop) → Shared → Prop} {Q : α → Shared → Prop} {s : Shared} (hc : ∀ i j (C : Bool → Shared → Prop), i < n → j < n → (∀ b, C b s) → cmp i j C s) (hq : ∀ a, P a → Q a s) : ∀ (t : KasT α), Safe n P t → t.kasWp cmp Q s
  | .ret a, h => hq a h
  | .ask i j k, h => hc i j _ h.1 h.2.1 fun b => Safe.wp hc hq (k b) (h.2.2 b)
noncomputable def Ent (n : Nat) (p : Array Nat) : Prop := p.size = n ∧ ∀ x ∈ p, x < n
theorem Ent.perm {n : Nat} {p q : Array Nat} (h : Ent n p) (e : q.Perm p) : Ent n q := ⟨e.size_eq.trans h.1, fun x hx => h.2 x (e.mem_iff.mp hx)⟩
theorem Ent.rev {n : Nat} {p : Array Nat} (h : Ent n p) (i j : Nat) : Ent n (kas_rev p i j) := h.perm (mirror_perm _ _ _ _)
theorem Ent.get {n : Nat} {p : Array Nat} (h0 : 0 < n) (h : Ent n p) (i : Nat) : p.getD i 0 < n := by
  by_cases hi : i < p.size
  · have : p.getD i 0 = p[i] := by simp [Array.getD, hi]
    rw [this]
    exact h.2 _ (Array.getElem_mem hi)
  · have : p.getD i 0 = 0 := by simp [Array.getD, hi]
    rw [this]; exact h0
theorem safe_asc {n : Nat} {p : Array Nat} (h0 : 0 < n) (h : Ent n p) : ∀ (f m : Nat), Safe n (fun _ => True) (kas_asc p f m) := by
  intro f
  induction f with
  | zero => exact fun _ => trivial
  | succ f ih => exact fun m => ⟨h.get h0 _, h.get h0 _, fun b => by
      cases b
      · exact ih (m + 1)
      · exact trivial⟩
theorem safe_desc {n : Nat} (h0 : 0 < n) : ∀ (f : Nat) (p : Array Nat) (m q : Nat), Ent n p → Safe n (fun r : Array Nat × Nat × Nat => Ent n r.1) (kas_desc f p m q) := by
  intro f
  induction f with
  | zero => exact fun _ _ _ h => h
  | succ f ih =>
    refine fun p m q h => ⟨h.get h0 _, h.get h0 _, fun b => ?_⟩
    cases b
    · show Safe n _ (if false = true then _ else KasT.ask _ _ _)
      rw [if_neg (by simp)]
      refine ⟨h.get h0 _, h.get h0 _, fun b => ?_⟩
      cases b
      · exact ih p _ _ h
      · exact h
    · show Safe n _ (if true = true then _ else _)
      rw [if_pos rfl]
      split
      · exact ih _ _ _ (h.rev _ _)
      · exact ih _ _ _ h
theorem safe_tail3 {n : Nat} (h0 : 0 < n) (m nrem : Nat) {p : Array Nat} (h : Ent n p) : Safe n (fun r : Nat × Array Nat => Ent n r.2) (kas_tail3 m nrem p) := by
  refine Safe.bind (P := fun _ => True) (fun k _ => ?_) _ (safe_asc h0 (h.rev _ _) _ _)
  exact h.rev 0 m
theorem safe_descPart {n : Nat} (h0 : 0 < n) (m nrem : Nat) {p : Array Nat} (h : Ent n p) : Safe n (fun r : Nat × Array Nat => Ent n r.2) (kas_descPart m nrem p) := by
  refine Safe.bind (fun r hr => ?_) _ (safe_desc h0 _ p _ _ h)
  split
  · exact safe_tail3 h0 _ _ (Ent.rev hr _ _)
  · exact safe_tail3 h0 _ _ hr
theorem safe_count {n : Nat} (h0 : 0 < n) (nrem : Nat) {p : Array Nat} (h : Ent n p) : Safe n (fun r : Nat × Array Nat => Ent n r.2) (kas_count nrem p) := by
  refine Safe.bind (fun m _ => ?_) _ (safe_asc h0 h _ _)
  split
  · exact h
  split
  · refine ⟨h.get h0 _, h.get h0 _, fun b => ?_⟩
    cases b
    · exact safe_descPart h0 _ _ (h.rev _ _)
    · exact h
  · exact safe_descPart h0 _ _ h
theorem safe_place {n : Nat} (h0 : 0 < n) {p : Array Nat} (h : Ent n p) (k : Nat) : ∀ (f l r : Nat), Safe n (fun _ => True) (kas_place p k f l r) := by
  intro f
  induction f with
  | zero => exact fun _ _ => trivial
  | succ f ih =>
    intro l r
    show Safe n _ (if l ≥ r then _ else _)
    split
    · exact trivial
    · refine ⟨h.get h0 _, h.get h0 _, fun b => ?_⟩
      cases b
      · exact ih _ _
      · exact ih _ _
theorem safe_bin {n : Nat} (h0 : 0 < n) : ∀ (f : Nat) (p : Array Nat) (k : Nat), Ent n p → Safe n (Ent n) (kas_bin f p k) := by
  intro f
  induction f with
  | zero => exact fun _ _ h => h
  | succ f ih => exact fun p k h => Safe.bind (fun _ _ => ih _ _ (h.perm (bubble_perm _ _ _))) _ (safe_place h0 h _ _ _ _)
theorem safe_sort {n : Nat} (h0 : 0 < n) : Safe n (Ent n) (kas_sort n) := by
  refine Safe.bind (fun r hr => ?_) _ (safe_count h0 n (p := List.toArray (List.range n)) ⟨by simp, fun x hx => by simpa using hx⟩)
  split
  · exact safe_bin h0 _ _ _ hr
  · exact hr

/-! sorting keys of a word and a number -/
section
variable {prog : Program} {w : World} {A : Around} {E : Value → Shared → Prop} {s : Shared}
theorem lt_keys {a b : Addr} {oa ob : Obj} {x y : Str} {i j : Int} {t u t' u' : Tok} {na nb : Nat} {C : Bool → Shared → Prop} (ha : s.heap.get? a = some oa) (da : oa.data = .seq #[.str x t, .int i u] na) (hb : s.heap.get? b = some ob) (db : ob.data = .seq #[.str y t', .int j u'] nb)
    (hC : ∀ c, C c s) : wpAny (model prog w) A (keyLt' (tuples' true) (.ref a) (.ref b)) C E s := by
  refine kat_lt ha da hb db (kat_cons (wpAny_eqBool_str (kat_go (fun _ => kat_yes (kat_cons (wpAny_eqBool_int (kat_go (fun _ => kat_yes (kat_nil (hC _))) (fun _ => kat_no ?_))))) (fun _ => kat_no ?_))))
  · exact kat_one _ _ (P.lt_int (hC _))
  · exact oneLt_str (hC _)
end
section
variable {prog : Program} {w : World} {A : Around} {E : Value → Shared → Prop} {s : Shared} {h₀ : Heap} {L a : Addr} {m : Str → Option Value} {news : List (Addr × Obj)} {vs : List Value}
theorem short_sort {n : Nat} {P : PySem.Fin → Shared → Prop} (F : Fr h₀ L s.heap m) (N : News h₀ L s.heap news) (ho : s.heap.get? a = some (seqObj "list" vs.toArray n)) (haL : a ≠ L) (ha0 : h₀.get? a = none) (hna : ∀ p ∈ news, p.1 ≠ a)
    (h2 : vs.length < 2) (h : ∀ h' c, Fr h₀ L h' m → News h₀ L h' ((a, listOf vs.toArray c) :: news) → P (.done (.ret .none)) { s with heap := h' }) :
    wpAny (model prog w) A (Builtin.«list.sort» ⟨[.ref a], []⟩) P E s := by
  have ha : a < s.heap.objs.size := Heap.lt_size ho
  have s1 := Heap.SameBut.update s.heap a (Obj.mapSeq fun _ => (#[] : Array Value))
  obtain ⟨e1, ho1⟩ : ∃ e1, (s.heap.update a (Obj.mapSeq fun _ => (#[] : Array Value))).get? a = some (seqObj "list" #[] e1) := ⟨_, get?_update_seq ho fun _ => #[]⟩
  have F3 : Fr h₀ L (((s.heap.update a (Obj.mapSeq fun _ => (#[] : Array Value))).push (seqObj "tuple" vs.toArray 0)).push (seqObj "list" #[] 0)) m := ((kas_fr F s1 haL ha0).push _).push _
  have N2 : News h₀ L (((s.heap.update a (Obj.mapSeq fun _ => (#[] : Array Value))).push (seqObj "tuple" vs.toArray 0)).push (seqObj "list" #[] 0)) news :=
    (kas_news N s1 hna).grown fun b x e => Heap.get?_push_of_some _ (Heap.get?_push_of_some _ e)
  have N3 : News h₀ L (((s.heap.update a (Obj.mapSeq fun _ => (#[] : Array Value))).push (seqObj "tuple" vs.toArray 0)).push (seqObj "list" #[] 0)) ((a, seqObj "list" #[] e1) :: news) := fun p hp => by
    rcases List.mem_cons.mp hp with rfl | hp
    · exact ⟨Heap.get?_push_of_some _ (Heap.get?_push_of_some _ ho1), haL, ha0⟩
    · exact N2 p hp
  have na := N3 (a, seqObj "list" #[] e1) (.head _)
  rw [list_sort_plain]
  refine wpAny_bind (listItems_at ho rfl ?_)
  refine wpAny_bind (listUpdate_at ho rfl ?_ (by rw [List.size_toArray, sizeLine_eq]; omega) (Nat.zero_le _))
  refine wpAny_bind (seqEpoch_at ho1 rfl ?_)
  refine wpAny_bind (wpAny_newTuple ?_ (by show vs.length ≤ _; rw [sizeLine_eq]; omega))
  refine wpAny_bind (wpAny_newList ?_ (Nat.zero_le _))
  refine wpAny_holding ?_
  show wpAny (model prog w) A _ P E { s with heap := ((s.heap.update a (Obj.mapSeq fun _ => (#[] : Array Value))).push (seqObj "tuple" vs.toArray 0)).push (seqObj "list" #[] 0) }
  dsimp only
  have hn2 : vs.toArray.size < 2 := by rw [List.size_toArray]; omega
  rw [if_pos hn2, if_pos hn2]
  refine wpAny_bind (wpAny_pure ?_)
  refine wpAny_bind (wpAny_pure ?_)
  dsimp only
  have hout : (arrOf (SortSt.mk' general' (vs.toArray.zip vs.toArray) #[] 7 none)).map (·.2) = vs.toArray := by
    show (vs.toArray.zip vs.toArray).map (·.2) = vs.toArray
    have e : (vs.zip vs).map (·.2) = vs := List.map_snd_zip (Nat.le_refl _)
    simp [e]
  rw [hout]
  have s2 := Heap.SameBut.update (((s.heap.update a (Obj.mapSeq fun _ => (#[] : Array Value))).push (seqObj "tuple" vs.toArray 0)).push (seqObj "list" #[] 0)) a (Obj.mapSeq fun _ => vs.toArray)
  obtain ⟨c2, hc2⟩ : ∃ c2, ((((s.heap.update a (Obj.mapSeq fun _ => (#[] : Array Value))).push (seqObj "tuple" vs.toArray 0)).push (seqObj "list" #[] 0)).update a (Obj.mapSeq fun _ => vs.toArray)).get? a = some (seqObj "list" vs.toArray c2) := ⟨_, get?_update_seq na.1 fun _ => vs.toArray⟩
  refine wpAny_bind (seqEpoch_at na.1 rfl ?_)
  refine wpAny_bind (listUpdate_at na.1 rfl ?_ (Nat.zero_le _) (by rw [List.size_toArray, sizeLine_eq]; omega))
  simp only [bne_self_eq_false, Bool.false_eq_true, if_false]
  refine wpAny_pure (h _ c2 (kas_fr F3 s2 na.2.1 na.2.2) ?_)
  exact news_set (pre := []) N3 (fun _ hp => nomatch hp) hna s2 hc2
end

/-- a key's tuple -/
noncomputable def KeyObj (o : Obj) : Prop := ∃ x i t u, o = { cls := .type "tuple", data := .seq #[.str x t, .int i u] }
section
variable {prog : Program} {w : World} {K : Frag} {A : Around} {E : Value → Shared → Prop} {n : Nat} {g h : Heap} {env : Env} {L : Addr} {m : Str → Option Value} {l : List (Addr × Obj)} {s₀ : Shared} {t : Nat} {Q : Value → Shared → Prop}
theorem tups_of {h : Heap} : ∀ {vs : List Value}, (∀ v ∈ vs, ∃ a o, v = .ref a ∧ h.get? a = some o ∧ KeyObj o) → ∃ fs, KatTups h vs fs ∧ fs.length = vs.length ∧ ∀ v ∈ fs, ∃ x t, v = Value.str x t := by
  intro vs
  induction vs with
  | nil => exact fun _ => ⟨[], .nil, rfl, fun _ h => nomatch h⟩
  | cons v vs ih =>
    intro hv
    obtain ⟨fs, h1, h2, h3⟩ := ih fun v hv' => hv v (.tail _ hv')
    obtain ⟨a, o, rfl, ho, x, i, t, u, rfl⟩ := hv v (.head _)
    refine ⟨.str x t :: fs, KatTups.cons ho rfl rfl rfl h1, congrArg (· + 1) h2, fun v hv' => ?_⟩
    rcases List.mem_cons.mp hv' with rfl | hv'
    · exact ⟨_, _, rfl⟩
    · exact h3 v hv'
theorem sort_keys {D : Addr} {vs : List Value} {c : Nat} (S : St g L h m ((D, listOf vs.toArray c) :: l)) (hv : ∀ v ∈ vs, ∃ a o, v = .ref a ∧ (a, o) ∈ l ∧ KeyObj o) (h64 : vs.length < 64)
    (hQ : ∀ (us : List PySem.Value) h' t' c', us.length = vs.length → (∀ v ∈ us, v ∈ vs) → St g L h' m ((D, listOf us.toArray c') :: l) → Q .none (sg s₀ h' t')) : wpAny (model prog w) A (call (.builtin "list.sort") [.ref D]) Q E (sg s₀ h t) := by
  have nz := S.N (D, listOf vs.toArray c) (.head _)
  have hna : ∀ p ∈ l, p.1 ≠ D := fun p hp => S.ne hp
  have hl := S.D
  have nd : ∀ o, (((D, o) :: l).map (·.1)).Nodup := fun o => by simpa using hl
  by_cases h2 : vs.length < 2
  · refine wpAny_call_entry slot_list_sort ⟨_, S.get (.head _), rfl⟩ entry_list_sort (short_sort (s := sg s₀ h t) (news := l) (n := c) S.F S.drop.N (S.get (.head _)) nz.2.1 nz.2.2 hna h2 fun h' c' F' N' => ?_) (args_list_sort _)
    exact ⟨_, rfl, hQ vs h' t c' rfl (fun _ h => h) ⟨F', N', nd _⟩⟩
  · refine kat_lsort (s := sg s₀ h t) (g := fun o => (D, o) :: l) (vs := vs) S.F S.N (.head hna) (by simp) (by omega) h64 fun e1 h' F' N' => ?_
    have keyAt : ∀ i, i < vs.length → ∃ a o, vs.getD i Value.none = .ref a ∧ h'.get? a = some o ∧ KeyObj o := fun i hi => by
      have e : vs.getD i Value.none = vs[i] := by simp [hi]
      obtain ⟨a, o, e2, hm, hk⟩ := hv vs[i] (List.getElem_mem hi)
      exact ⟨a, o, e.trans e2, (N' _ (.tail _ hm)).1, hk⟩
    obtain ⟨fs, ht, hfl, hfs⟩ := tups_of (h := h') (vs := vs) fun v hv' => by
      obtain ⟨a, o, e2, hm, hk⟩ := hv v hv'
      exact ⟨a, o, e2, (N' _ (.tail _ hm)).1, hk⟩
    refine kat_kind (s := { sg s₀ h t with heap := h' }) (T := .type "str") ht (by omega) (fun v hv' => ?_) (by decide) ?_
    · obtain ⟨x, t, rfl⟩ := hfs v hv'
      exact Looks.of_pure rfl
    refine Safe.wp (n := vs.length) (P := Ent vs.length) (fun i j C hi hj hC => ?_) (fun p hp => ?_) _ (safe_sort (by omega))
    · obtain ⟨a, o, e1, h1, x, k, t1, u1, rfl⟩ := keyAt i hi
      obtain ⟨b, o', e2, h2, y, k', t2, u2, rfl⟩ := keyAt j hj
      show wpAny _ _ (keyLt' _ (vs.getD i Value.none) (vs.getD j Value.none)) C _ _
      rw [e1, e2]
      exact lt_keys h1 rfl h2 rfl hC
    · refine KasFin.intro (g := fun o => (D, o) :: l) F' N' (.head hna) fun h'' c' F'' N'' => ?_
      refine hQ _ h'' t c' (by rw [List.length_map, Array.length_toList, hp.1]) (fun v hv' => ?_) ⟨F'', N'', nd _⟩
      obtain ⟨i, hi, rfl⟩ := List.mem_map.mp hv'
      have hlt := hp.2 i (Array.mem_toList_iff.mp hi)
      rw [show vs.getD i Value.none = vs[i] by simp [hlt]]
      exact List.getElem_mem hlt
theorem r_sortedH {κ : Type} [DecidableEq κ] {knd : HeapKind prog w κ} {d : Addr} {o : Obj} {xs : List (κ × Addr × Value)} (C : Fx K A n g env L) (S : St g L h m l) (hm : (d, o) ∈ l) (H : DH knd o xs) (hsys : (d == sysModules) = false) (hz : xs.length < 64)
    (hk : ∀ x ∈ xs, ∃ o, (x.2.1, o) ∈ l ∧ KeyObj o)
    (hQ : ∀ (us : List PySem.Value) D c h' t', us.length = xs.length → (∀ v ∈ us, ∃ x ∈ xs, v = PySem.Value.ref x.2.1) → St g L h' m ((D, listOf us.toArray c) :: l) → Q (.ref D) (sg s₀ h' t')) : wpAny (model prog w) A (call (.builtin "sorted") [.ref d]) Q E (sg s₀ h t) := by
  obtain ⟨es, ep, hd, hsz, hkey⟩ := H.raw
  have hraw : RawD h d es ep := ⟨o, S.get hm, H.1, hd⟩
  refine kdu_sorted (s := sg s₀ h t) (raw_src d es ep hsys) C.hnd S.F S.N hraw (by rw [sizeLine_eq]; omega) fun D h' tk vs F' N' l1 hl hv => ?_
  have e : vs = xs.map fun x => PySem.Value.ref x.2.1 := keys_are (by omega) fun j v hj => by
    obtain ⟨e, he, rfl⟩ := hv j v hj
    exact hkey j e he
  subst e
  refine sort_keys (c := 0) (S.pushed F' N' l1) (fun v hv => ?_) (by simpa using hz) fun us h' t' c' e1 e2 S' => ?_
  · obtain ⟨x, hx, rfl⟩ := List.mem_map.mp hv
    obtain ⟨o, h1, h2⟩ := hk x hx
    exact ⟨_, o, rfl, h1, h2⟩
  · refine hQ us D c' h' t' (by simpa using e1) (fun v hv => ?_) S'
    obtain ⟨x, hx, e⟩ := List.mem_map.mp (e2 v hv)
    exact ⟨x, hx, e.symm⟩
end
end Mine

namespace Mine

/-- what a comprehension's walk stands upon -/
structure SrcJ (prog : Program) (w : World) (A : Around) (s₀ : Shared) (g : Heap) (L : Addr) (h : Heap) (xv : Value) (n : Nat) (P : Nat → Value → Prop) (S : List (Addr × Obj) → Prop) : Prop where
  is : ∃ (oI : Obj) (fp : List Addr) (Z : Nat → Heap → Prop), oI.isFreed = false ∧ (∀ (t : Nat) (Q : Value → Shared → Prop) (E : Value → Shared → Prop), Q (.ref h.objs.size) (sg s₀ (h.push oI) t) → wpAny (model prog w) A (pyIter xv) Q E (sg s₀ h t)) ∧
    Walks prog w A h.objs.size fp [h.objs.size] n P Z ∧ Z 0 (h.push oI) ∧ (∀ b ∈ fp, b < (h.push oI).objs.size) ∧ (∀ i h', Z i h' → ∃ o, h'.get? h.objs.size = some o) ∧
    (∀ i h' h'' o nw, Z i h' → h'.get? h.objs.size = some o → h''.get? h.objs.size = some o → (∀ b o, g.get? b = some o → h''.get? b = some o) → News g L h'' nw → S nw → Z i h'')
section
variable {prog : Program} {w : World} {K : Frag} {A : Around} {E : Value → Shared → Prop} {n : Nat} {g h : Heap} {env : Env} {L : Addr} {m : Str → Option Value} {l : List (Addr × Obj)} {s₀ : Shared} {t : Nat} {Q : Value → Shared → Prop}
theorem src_dict {κ : Type} [DecidableEq κ] {knd : HeapKind prog w κ} {d : Addr} {o : Obj} {xs : List (κ × Addr × Value)} (C : Fx K A n g env L) (S : St g L h m l) (hm : (d, o) ∈ l) (H : DH knd o xs) (hsys : (d == sysModules) = false) :
    SrcJ prog w A s₀ g L h (.ref d) xs.length (fun i v => ∃ x, xs[i]? = some x ∧ v = PySem.Value.ref x.2.1) (fun nw => (d, o) ∈ nw) := by
  obtain ⟨es, ep, hd, hsz, hkey⟩ := H.raw
  have hraw : RawD h d es ep := ⟨o, S.get hm, H.1, hd⟩
  have dh : d < h.objs.size := Heap.lt_size (S.get hm)
  have W := raw_walks (prog := prog) (w := w) C.hnd h.objs.size d (Nat.ne_of_lt dh) es ep
  refine ⟨⟨{ cls := .type "dict_keyiterator", data := .fields #[.ref d, .int 0 0, .int es.size 0, .int ep 0] }, [h.objs.size, d], fun i h' => h'.IsKeyIter h.objs.size d i es.size ep ∧ RawD h' d es ep, rfl, fun t Q E hq => raw_iter (s := sg s₀ h t) hsys hraw hq, ?_, ⟨⟨_, Heap.get?_push_size _ rfl, rfl, rfl⟩, hraw.at' fun o e => Heap.get?_push_of_some _ e⟩, fun b hb => ?_, fun i h' z => ?_, fun i h' h'' ob nw z e1 e2 k N hS => ?_⟩⟩
  · exact
    { sub := W.sub, frame := W.frame, self := W.self,
      done := fun s Q E st hQ => W.done s Q E (hsz ▸ st) hQ,
      item := fun i s Q E hi st hQ => W.item i s Q E (by omega) st fun v h' tk hP => hQ v h' tk (by
        obtain ⟨e, he, rfl⟩ := hP
        exact hkey i e he) }
  · rw [Heap.size_push]
    rcases List.mem_cons.mp hb with rfl | hb
    · exact Nat.lt_succ_self _
    · rw [List.mem_singleton.mp hb]; exact Nat.lt_succ_of_lt dh
  · obtain ⟨o, ho, _⟩ := z.1
    exact ⟨o, ho⟩
  · refine ⟨?_, ⟨o, (N _ hS).1, H.1, hd⟩⟩
    obtain ⟨o', q, r⟩ := z.1
    rw [e1] at q
    cases q
    exact ⟨_, e2, r⟩
theorem src_tuple {d : Addr} {vs : List Value} (C : Fx K A n g env L) (S : St g L h m l) (hm : (d, tupO vs) ∈ l) :
    SrcJ prog w A s₀ g L h (.ref d) vs.length (fun i v => vs[i]? = some v) (fun nw => (d, tupO vs) ∈ nw) := by
  have ht : h.IsTuple d vs.toArray := ⟨_, S.get hm, rfl, 0, rfl⟩
  have dh : d < h.objs.size := Heap.lt_size (S.get hm)
  have W := Walks.tuple (prog := prog) (w := w) C.hnd h.objs.size d (Nat.ne_of_lt dh) vs.toArray
  refine ⟨⟨{ cls := .type "tuple_iterator", data := .fields #[.ref d, .int 0 0] }, [h.objs.size, d], fun i h' => h'.IsTupleIter h.objs.size d i ∧ h'.IsTuple d vs.toArray, rfl, fun t Q E hq => wpAny_pyIter_tuple (s := sg s₀ h t) ht hq, ?_, ⟨⟨_, Heap.get?_push_size _ rfl, rfl, rfl⟩, ht.push _⟩, fun b hb => ?_, fun i h' z => ?_, fun i h' h'' ob nw z e1 e2 k N hS => ?_⟩⟩
  · have e : vs.toArray.size = vs.length := by simp
    exact
    { sub := W.sub, frame := W.frame, self := W.self,
      done := fun s Q E st hQ => W.done s Q E (e ▸ st) hQ,
      item := fun i s Q E hi st hQ => W.item i s Q E (by omega) st fun v h' tk hP => hQ v h' tk (by simpa using hP) }
  · rw [Heap.size_push]
    rcases List.mem_cons.mp hb with rfl | hb
    · exact Nat.lt_succ_self _
    · rw [List.mem_singleton.mp hb]; exact Nat.lt_succ_of_lt dh
  · obtain ⟨o, ho, _⟩ := z.1
    exact ⟨o, ho⟩
  · refine ⟨?_, ⟨_, (N _ hS).1, rfl, 0, rfl⟩⟩
    obtain ⟨o', q, r⟩ := z.1
    rw [e1] at q
    cases q
    exact ⟨_, e2, r⟩

open PyProof.Rows.LCg PyProof.Rows.LCt
/-- what a block's turn comes to -/
inductive BlockEnd (s₀ : Shared) (g : Heap) (L : Addr) (m : Str → Option Value) (T : List (Addr × Obj)) (J : List (Addr × Obj) → Prop) (s' : Shared) : Prop
  | mk (h' : _) (t' : _) (l' : _)
    (hc0 : s' = sg s₀ h' t')
    (hc1 : St g L h' m (T ++ l'))
    (hc2 : J l') : BlockEnd s₀ g L m T J s'
theorem block_S {T l' : List (Addr × Obj)} {J : List (Addr × Obj) → Prop} (l'' : List (Addr × Obj)) (S : St g L h m l) (hs : Sub (T ++ l'') l) (hJ : J l'') : BlockEnd s₀ g L m T J (sg s₀ h t) := ⟨_, _, _, rfl, S.subS hs, hJ⟩
theorem off_of {I C D : Addr} {oI oC oD : Obj} {l : List (Addr × Obj)} (S : St g L h m ((I, oI) :: (C, oC) :: (D, oD) :: l)) : Off3 I C D l ∧ (l.map (·.1)).Nodup := by
  have hd := S.D
  simp only [List.map_cons, List.nodup_cons, List.mem_cons, not_or] at hd
  obtain ⟨⟨a1, a2, a3⟩, ⟨b1, b2⟩, c1, c2⟩ := hd
  refine ⟨Off3.of fun p hp => ⟨fun e => a3 (mem_fst hp e), fun e => b2 (mem_fst hp e), fun e => c1 (mem_fst hp e)⟩, c2⟩
theorem st_of {I C D : Addr} {oI oC oD : Obj} (F : Fr g L h m) (N : News g L h ((I, oI) :: (C, oC) :: (D, oD) :: l)) (off : Off3 I C D l) (ne : I ≠ C ∧ I ≠ D ∧ C ≠ D) (hd : (l.map (·.1)).Nodup) : St g L h m ((I, oI) :: (C, oC) :: (D, oD) :: l) := by
  have o3 := off.mem
  refine ⟨F, N, ?_⟩
  simp only [List.map_cons, List.nodup_cons, List.mem_cons, not_or, List.mem_map, not_exists, not_and]
  exact ⟨⟨ne.1, ne.2.1, fun p hp => (o3 p hp).1⟩, ⟨ne.2.2, fun p hp => (o3 p hp).2.1⟩, fun p hp => (o3 p hp).2.2, hd⟩

theorem off_not {D : Addr} : ∀ l : List (Addr × Obj), Off1 D l → D ∉ l.map (·.1) := by
  intro l
  induction l with
  | nil => intro _ q; cases q
  | cons p r ih =>
    intro o q
    rcases List.mem_cons.mp q with e | q
    · exact o.1 e.symm
    · exact ih o.2 q
theorem comp_st {g h h'' : Heap} {L C D : Addr} {m : Str → Option Value} {o : Obj} {r : List (Addr × Obj)} (hs : Heap.SameBut C h h'') (F : Fr g L h m) (N : News g L h ((D, o) :: r)) (o1 : Off1 D r) (hC : g.get? C = none) (hCL : C ≠ L) (hCD : C ≠ D)
    (off : ∀ p ∈ r, p.1 ≠ C) (nd : (r.map (·.1)).Nodup) : St g L h'' m ((D, o) :: r) := by
  refine ⟨F.change hs hCL hC, fun p hp => ⟨hs.extBut _ _ ?_ (N p hp).1, (N p hp).2⟩, List.nodup_cons.mpr ⟨off_not _ o1, nd⟩⟩
  rcases List.mem_cons.mp hp with rfl | hp
  · exact Ne.symm hCD
  · exact off p hp

/-- where a comprehension with a test goes on -/
inductive CompJT (prog : Program) (w : World) (A : Around) (g : Heap) (env : Env) (L : Addr) (m : Str → Option Value) (s₀ : Shared) (ct elt : PySem.Expr) (x : Str) (scope : Scope) (ccl : List (Str × Addr)) (Q : Value → Shared → Prop) (xv : Value) (s₁ : Shared) : Prop
  | mk (h₁ : Heap) (t₁ : Nat) (l₁ : List (Addr × Obj)) (nn : Nat) (P : Nat → Value → Prop) (Kp : List (Addr × Obj) → Prop) (J : Nat → List Value → List (Addr × Obj) → Prop)
    (hc0 : s₁ = sg s₀ h₁ t₁)
    (hc1 : St g L h₁ m l₁)
    (hc2 : SrcJ prog w A s₀ g L h₁ xv nn P Kp)
    (hc3 : nn ≤ 1000)
    (hc4 : (∀ i ys l, J i ys l → Kp l))
    (hc5 : J 0 [] l₁)
    (hc6 : (∀ i v ys l I oI Cc oC D m₂ h t, i < nn → P i v → NsObj oC m₂ → m₂ x = some v → J i ys l → St g L h m ((I, oI) :: (Cc, oC) :: (D, lst ys) :: l) →
      wpAny (model prog w) A (isTrue ct (compEnvC scope ccl Cc env) (eval ct (compEnvC scope ccl Cc env))) (fun ok s' => if ok = true then
          wpAny (model prog w) A (eval elt (compEnvC scope ccl Cc env)) (fun y => BlockEnd s₀ g L m [(I, oI), (Cc, oC), (D, lst ys)] (J (i + 1) (ys ++ [y]))) (fun _ _ => False) s'
        else BlockEnd s₀ g L m [(I, oI), (Cc, oC), (D, lst ys)] (J (i + 1) ys) s') (fun _ _ => False) (sg s₀ h t)))
    (hc7 : ∀ D h t ys l, St g L h m ((D, lst ys) :: l) → J nn ys l → Q (.ref D) (sg s₀ h t)) : CompJT prog w A g env L m s₀ ct elt x scope ccl Q xv s₁
theorem r_compT {ct elt iter : PySem.Expr} {x : Str} {px pos : Pos} {scope : Scope} {ccl : List (Str × Addr)}
    (hclos : closureFor scope env = pure ccl) (hcell : ∀ y ∈ scope.names, y.2 ≠ .cell) (hkind : scope.kind = .function)
    (hnames : ∀ y ∈ scope.names, y.2 = .local → scope.names.lookup y.1 = some .local) (hx : scope.names.lookup x = some .local) (hs : ∀ x, foldedSetIterable iter env x = pure x)
    (hQ : wpAny (model prog w) A (eval iter env) (CompJT prog w A g env L m s₀ ct elt x scope ccl Q) E (sg s₀ h t)) :
    wpAny (model prog w) A (eval (.ListComp elt [⟨.Name x px, iter, [ct], 0⟩] scope pos) env) Q E (sg s₀ h t) := by
  rw [eval_ListComp]
  refine wpAny_comprehension_free (use := none) rfl hs hclos hkind hnames (wpAny_mono hQ (fun xv s₁ h₁ => ?_) fun _ _ e => e)
  obtain ⟨h₁, t₁, l₁, nn, P, Kp, J, rfl, S, src, hnn, hkp, hj, turn, done⟩ := h₁
  obtain ⟨oI, fp, Z, hfr, hit, W, z0, hfp, hIo, hSt⟩ := src.is
  refine hit _ _ _ ?_
  have up : ∀ b o, h₁.get? b = some o → (h₁.push oI).get? b = some o := fun b o e => Heap.get?_push_of_some _ e
  have rest : ∀ (s₂ : Shared), (∃ h t, s₂ = sg s₀ h t) → ∀ (k i : Nat) (ys : List Value) (l : List (Addr × Obj)), i + k = nn → (l.map (·.1)).Nodup → J i ys l → CompRestT prog w A g L m env ct elt x scope ccl s₂ (fun nw => Kp nw) P
      (fun ys news => (news.map (·.1)).Nodup ∧ J nn ys news) k i ys l := by
    rintro s₂ ⟨h2, t2, rfl⟩ k
    induction k with
    | zero =>
      intro i ys l hi hd hJ
      have : i = nn := by omega
      subst this
      exact CompRestT.zero ⟨hd, hJ⟩
    | succ k ih =>
      intro i ys l hi hd hJ
      refine CompRestT.succ fun v I oI' Cc oC D m₂ h tk E' hP hoC hm2 F N off ne => ?_
      have S' := st_of F N off ne hd
      have conv : ∀ (us : List Value) (y : Value) (s' : Shared), BlockEnd s₀ g L m [(I, oI'), (Cc, oC), (D, lst ys)] (J (i + 1) us) s' →
          CompEnd g L m { sg s₀ h2 t2 with heap := h, toks := tk } I oI' Cc oC D (lst ys) (fun nw => Kp nw) (fun _ news' => CompRestT prog w A g L m env ct elt x scope ccl (sg s₀ h2 t2) (fun nw => Kp nw) P (fun ys news => (news.map (·.1)).Nodup ∧ J nn ys news) k (i + 1) us news') y s' := by
        rintro us y s' ⟨h', t', l', rfl, S₂, hJ'⟩
        obtain ⟨off', hd'⟩ := off_of (l := l') S₂
        exact ⟨h', t', l', rfl, S₂.F, S₂.N, off', hkp _ _ _ hJ', ih (i + 1) us l' (by omega) hd' hJ'⟩
      refine wpAny_mono (turn i v ys l I oI' Cc oC D m₂ h tk (by omega) hP hoC hm2 hJ S') (fun ok s' hok => ?_) fun _ _ e => e.elim
      cases ok with
      | true =>
        simp only [if_true] at hok ⊢
        refine wpAny_mono hok (fun y s'' hy => ?_) fun _ _ e => e.elim
        exact conv _ y s'' hy
      | false =>
        simp only [Bool.false_eq_true, if_false] at hok ⊢
        exact conv _ _ s' hok
  have Lh : L < h₁.objs.size := S.F.ns.lt
  refine block_T W (by rw [sizeLine_eq]; omega) hIo hSt hcell hkind hx z0 hfp (S.F.keeps up) (S.N.grown up) (Nat.ne_of_lt Lh) ?_ (fun p hp => Nat.ne_of_lt (Heap.lt_size (S.get (a := p.1) (o := p.2) hp))) (hkp _ _ _ hj) (rest _ ⟨_, _, rfl⟩ nn 0 [] l₁ (by omega) S.D hj) ?_
  · exact next_is_new S.F
  · intro D C h tk m' ys news' F' N' o1 hn hC₀ hD₀ hCL hDL hCD offC fin
    refine ⟨m', hn, fun h'' hs'' => ?_⟩
    exact done D h'' tk ys news' (comp_st hs'' F' N' o1 hC₀ hCL hCD offC fin.1) fin.2
/-- and one without -/
inductive CompJU (prog : Program) (w : World) (A : Around) (g : Heap) (env : Env) (L : Addr) (m : Str → Option Value) (s₀ : Shared) (elt : PySem.Expr) (x : Str) (scope : Scope) (ccl : List (Str × Addr)) (Q : Value → Shared → Prop) (xv : Value) (s₁ : Shared) : Prop
  | mk (h₁ : Heap) (t₁ : Nat) (l₁ : List (Addr × Obj)) (nn : Nat) (P : Nat → Value → Prop) (Kp : List (Addr × Obj) → Prop) (J : Nat → List Value → List (Addr × Obj) → Prop)
    (hc0 : s₁ = sg s₀ h₁ t₁)
    (hc1 : St g L h₁ m l₁)
    (hc2 : SrcJ prog w A s₀ g L h₁ xv nn P Kp)
    (hc3 : nn ≤ 1000)
    (hc4 : (∀ i ys l, J i ys l → Kp l))
    (hc5 : J 0 [] l₁)
    (hc6 : (∀ i v ys l I oI Cc oC D m₂ h t, i < nn → P i v → NsObj oC m₂ → m₂ x = some v → J i ys l → St g L h m ((I, oI) :: (Cc, oC) :: (D, lst ys) :: l) →
      wpAny (model prog w) A (eval elt (compEnvC scope ccl Cc env)) (fun y => BlockEnd s₀ g L m [(I, oI), (Cc, oC), (D, lst ys)] (J (i + 1) (ys ++ [y]))) (fun _ _ => False) (sg s₀ h t)))
    (hc7 : ∀ D h t ys l, St g L h m ((D, lst ys) :: l) → J nn ys l → Q (.ref D) (sg s₀ h t)) : CompJU prog w A g env L m s₀ elt x scope ccl Q xv s₁
theorem r_compU {elt iter : PySem.Expr} {x : Str} {px pos : Pos} {scope : Scope} {ccl : List (Str × Addr)}
    (hclos : closureFor scope env = pure ccl) (hcell : ∀ y ∈ scope.names, y.2 ≠ .cell) (hkind : scope.kind = .function)
    (hnames : ∀ y ∈ scope.names, y.2 = .local → scope.names.lookup y.1 = some .local) (hx : scope.names.lookup x = some .local) (hs : ∀ x, foldedSetIterable iter env x = pure x)
    (hQ : wpAny (model prog w) A (eval iter env) (CompJU prog w A g env L m s₀ elt x scope ccl Q) E (sg s₀ h t)) :
    wpAny (model prog w) A (eval (.ListComp elt [⟨.Name x px, iter, [], 0⟩] scope pos) env) Q E (sg s₀ h t) := by
  rw [eval_ListComp]
  refine wpAny_comprehension_free (use := none) rfl hs hclos hkind hnames (wpAny_mono hQ (fun xv s₁ h₁ => ?_) fun _ _ e => e)
  obtain ⟨h₁, t₁, l₁, nn, P, Kp, J, rfl, S, src, hnn, hkp, hj, turn, done⟩ := h₁
  obtain ⟨oI, fp, Z, hfr, hit, W, z0, hfp, hIo, hSt⟩ := src.is
  refine hit _ _ _ ?_
  have up : ∀ b o, h₁.get? b = some o → (h₁.push oI).get? b = some o := fun b o e => Heap.get?_push_of_some _ e
  have rest : ∀ (s₂ : Shared), (∃ h t, s₂ = sg s₀ h t) → ∀ (k i : Nat) (ys : List Value) (l : List (Addr × Obj)), i + k = nn → (l.map (·.1)).Nodup → J i ys l → CompRest prog w A g L m env elt x scope ccl s₂ (fun nw => Kp nw) P
      (fun ys news => (news.map (·.1)).Nodup ∧ J nn ys news) k i ys l := by
    rintro s₂ ⟨h2, t2, rfl⟩ k
    induction k with
    | zero =>
      intro i ys l hi hd hJ
      have : i = nn := by omega
      subst this
      exact CompRest.zero ⟨hd, hJ⟩
    | succ k ih =>
      intro i ys l hi hd hJ
      refine CompRest.succ fun v I oI' Cc oC D m₂ h tk E' hP hoC hm2 F N off ne => ?_
      have S' := st_of F N off ne hd
      refine wpAny_mono (turn i v ys l I oI' Cc oC D m₂ h tk (by omega) hP hoC hm2 hJ S') (fun y s' hok => ?_) fun _ _ e => e.elim
      obtain ⟨h', t', l', rfl, S₂, hJ'⟩ := hok
      obtain ⟨off', hd'⟩ := off_of (l := l') S₂
      exact ⟨h', t', l', rfl, S₂.F, S₂.N, off', hkp _ _ _ hJ', ih (i + 1) _ l' (by omega) hd' hJ'⟩
  have Lh : L < h₁.objs.size := S.F.ns.lt
  refine block_U W (by rw [sizeLine_eq]; omega) hIo hSt hcell hkind hx z0 hfp (S.F.keeps up) (S.N.grown up) (Nat.ne_of_lt Lh) ?_ (fun p hp => Nat.ne_of_lt (Heap.lt_size (S.get (a := p.1) (o := p.2) hp))) (hkp _ _ _ hj) (rest _ ⟨_, _, rfl⟩ nn 0 [] l₁ (by omega) S.D hj) ?_
  · exact next_is_new S.F
  · intro D C h tk m' ys news' F' N' o1 hn hC₀ hD₀ hCL hDL hCD offC fin
    refine ⟨m', hn, fun h'' hs'' => ?_⟩
    exact done D h'' tk ys news' (comp_st hs'' F' N' o1 hC₀ hCL hCD offC fin.1) fin.2

/-! names in a block -/
theorem rcb_local {scope : Scope} {ccl : List (Str × Addr)} {Cc : Addr} {oC : Obj} {m₂ : Str → Option Value} {x : Str} {pos : Pos} {v : Value} (S : St g L h m l) (hm : (Cc, oC) ∈ l) (hoC : NsObj oC m₂) (hv : m₂ x = some v) (hk : scope.kind = .function)
    (hx : scope.names.lookup x = some .local) (hd : (x == ("__debug__" : Str)) = false) (hQ : Q v (sg s₀ h t)) : wpAny (model prog w) A (eval (.Name x pos) (compEnvC scope ccl Cc env)) Q E (sg s₀ h t) :=
  wpAny_Name (wpAny_loadName_local hk (lookup_relabel_local hx) (hoC.ns (S.get hm)) hv hQ) hd
theorem rcb_cell {scope : Scope} {ccl : List (Str × Addr)} {Cc c : Addr} {o : Obj} {x : Str} {pos : Pos} {v : Value} (S : St g L h m l) (hc : ccl.lookup x = some c) (hm : (c, o) ∈ l) (ho : o.data = .cell (some v)) (hk : scope.kind = .function)
    (hx : (compEnvC scope ccl Cc env).kindOf x = some .cell) (hd : (x == ("__debug__" : Str)) = false) (hQ : Q v (sg s₀ h t)) : wpAny (model prog w) A (eval (.Name x pos) (compEnvC scope ccl Cc env)) Q E (sg s₀ h t) :=
  wpAny_Name (wpAny_loadName_cell hk hx hc ⟨o, S.get hm, ho⟩ hQ) hd
end
end Mine

namespace Mine

theorem list_no_keys : typeLookup (.type "list") "keys" = pure none := by rw [typeLookup_type, builtinLookup_eq_fast]; kernel_rfl
theorem entry_upd_loop : entryFor table "dict.update.loop" = some Builtin.«dict.update.loop» := entryFor_of_tree (by kernel_rfl)
theorem plain_upd_loop : plainId "dict.update.loop" = true := by decide +kernel
section
variable {prog : Program} {w : World} {A : Around} {E : Value → Shared → Prop} {s : Shared}
theorem no_keys {a : Addr} {xs : Array Value} {k : Nat} {Q : Option Value → Shared → Prop} (hx : s.heap.get? a = some (listOf xs k)) (hA : A.handled = none)
    (h : ∀ h' tk, (∀ b o, s.heap.get? b = some o → h'.get? b = some o) → Q none { s with heap := h', toks := tk }) : wpAny (model prog w) A (getAttr? (.ref a) "keys") Q E s := by
  obtain ⟨hp, g, d, tk, os⟩ := s
  have hT : ∀ tk', (⟨hp, g, d, tk', os⟩ : Shared).TypeIs (.ref a) "list" := fun _ => ⟨_, hx, rfl⟩
  have f1 := sub_AttributeError
  have f3 := PySem.F.slot_list_getattribute.lookup
  have f4 := PySem.F.slot_list_getattribute.bind (.ref a)
  have f5 := am_list_getattr_none
  unfold getAttr? getAttrBy? getAttrBy
  repeat (any_goals (first | assumption | exact hT _ | ((with_reducible show wpAny _ _ (call (Value.builtin "list.__getattribute__") _ _) _ _ _); refine call_meets PySem.F.slot_list_getattribute (hT _) am_entry_list_getattribute (PySem.F.args_list_getattribute_2 _ _) (meets_getattribute_miss_list a xs k #[] "keys" _ list_no_keys (by decide)) ⟨hx, hA, fun h' tk' e hx' => ?_⟩) | wp_step))
  obtain ⟨t', u', he⟩ := hx'.there
  show wpAny _ _ (getattributeRaised _ _ _ _ _ _ _) _ _ _
  unfold getattributeRaised
  repeat (any_goals (first | assumption | wp_step))
  exact h _ _ hx'.keeps
end

theorem St.lose {g h h₁ : Heap} {L I : Addr} {oI : Obj} {m : Str → Option Value} {l : List (Addr × Obj)} (S : St g L h m ((I, oI) :: l)) (hs : ∀ b o, b ≠ I → h.get? b = some o → h₁.get? b = some o) : St g L h₁ m l := by
  have ne : ∀ b o, g.get? b = some o → b ≠ I := fun b o e q => by
    have := (S.N _ (.head _)).2.2
    rw [← q, e] at this
    cases this
  have S₁ := S.drop
  exact ⟨⟨S₁.F.ns.at' fun o e => hs _ o (S.N _ (.head _)).2.1.symm e, fun b o e => hs b o (ne b o e) (S₁.F.keep b o e), S₁.F.above⟩, fun p hp => ⟨hs _ _ (S.ne hp) (S₁.N p hp).1, (S₁.N p hp).2⟩, S₁.D⟩
section
variable {prog : Program} {w : World} {K : Frag} {A : Around} {E : Value → Shared → Prop} {n : Nat} {g h : Heap} {env : Env} {L : Addr} {m : Str → Option Value} {l : List (Addr × Obj)} {s₀ : Shared} {t : Nat} {Q : Value → Shared → Prop}
variable {β : Type} [DecidableEq β] {bk : KeyKind prog w β}
/-- a list of pairs of a key and a value -/
noncomputable def PairsL (bk : KeyKind prog w β) (l : List (Addr × Obj)) (ps : List (List β × Addr × Value)) (vs : List Value) : Prop :=
  Paired (fun (x : List β × Addr × Value) v => ∃ a, v = .ref a ∧ (a, tupO [.ref x.2.1, x.2.2]) ∈ l ∧ TupK bk l x.1 x.2.1) ps vs
theorem take_new {κ : Type} [DecidableEq κ] {ps : List (κ × Addr × Value)} {x : κ × Addr × Value} {i : Nat} (hn : (ps.map (·.1)).Nodup) (hx : ps[i]? = some x) : storedH (ps.take i) x.1 x.2.1 x.2.2 = ps.take (i + 1) := by
  have hlt : i < ps.length := by
    rcases Nat.lt_or_ge i ps.length with q | q
    · exact q
    · rw [List.getElem?_eq_none q] at hx; cases hx
  have e : ps.take (i + 1) = ps.take i ++ [x] := by
    rw [List.take_add_one, hx]; rfl
  rw [e]
  refine storedH_new (atKey_none_of_get fun j p hj => ?_) _ _
  have hj' : j < i := by
    rcases Nat.lt_or_ge j i with q | q
    · exact q
    · rw [List.getElem?_eq_none (by simp; omega)] at hj; cases hj
  rw [List.getElem?_take_of_lt hj'] at hj
  have := idxH_unique hn hj (hx.trans (by rfl : some x = some (x.1, x.2)))
  omega
theorem upd_loop {B : Around} {R : Result → Shared → Prop} {la I d : Addr} {vs : List Value} {c : Nat} {ps : List (List β × Addr × Value)} (hb : B.units + 3 < cLine) (hh : B.handled = none) (hla : (la, listOf vs.toArray c) ∈ l) (hps : PairsL bk l ps vs) (hn : (ps.map (·.1)).Nodup) (hz : ps.length ≤ 1000)
    (hR : ∀ h' t' od, DH (tupleKind bk) od ps → St g L h' m ((d, od) :: l) → R (.ok (.ret .none)) (sg s₀ h' t')) :
    ∀ (k i : Nat) (h : Heap) (t : Nat) (oI od : Obj), i + k = ps.length → St g L h m ((I, oI) :: (d, od) :: l) → oI.cls = .type "list_iterator" → oI.data = .fields #[.ref la, .int i 0] → DH (tupleKind bk) od (ps.take i) →
      codeAny (model prog w) B (.builtin "dict.update.loop" ⟨[.ref d, .ref I, .int (i : Int) 0, .none], []⟩) R (sg s₀ h t) := by
  have hlen := hps.length
  intro k
  induction k with
  | zero =>
    intro i h t oI od hi S hc hd H
    have hin : i = ps.length := by omega
    subst hin
    refine codeAny_builtin entry_upd_loop ?_
    rw [Around.under_plainId plain_upd_loop _]
    show wpAny _ B.in1 (pyNext (.ref I) >>= _) _ _ _
    have hit : (sg s₀ h t).heap.IsListIter I la ps.length := ⟨oI, S.get (.head _), hc, hd⟩
    have hl : (sg s₀ h t).heap.IsList la vs.toArray := ⟨_, S.get (.tail _ (.tail _ hla)), rfl, c, rfl⟩
    refine wpAny_bind (wpAny_pyNext_list_end (A := B.in1) hh hit hl (by simp [hlen]) fun h₁ hs₁ => ?_)
    show wpAny _ _ (Builtin.Dict.addKeywords d [] >>= _) _ _ _
    refine wpAny_bind (wpAny_pure ?_)
    rw [List.take_length] at H
    exact wpAny_pure (hR h₁ _ od H (St.lose S fun b o ne e => hs₁ b o ne e))
  | succ k ih =>
    intro i h t oI od hi S hc hd H
    have hlt : i < ps.length := by omega
    obtain ⟨x, hx, a, e, hp, hk⟩ := paired_get hps i (by omega)
    have hv : vs[i]? = some (Value.ref a) := by
      have h1 : i < vs.length := by omega
      rw [List.getElem?_eq_getElem h1, e]
    refine codeAny_builtin entry_upd_loop ?_
    rw [Around.under_plainId plain_upd_loop _]
    show wpAny _ B.in1 (pyNext (.ref I) >>= _) _ _ _
    have hit : (sg s₀ h t).heap.IsListIter I la i := ⟨oI, S.get (.head _), hc, hd⟩
    have hl : (sg s₀ h t).heap.IsList la vs.toArray := ⟨_, S.get (.tail _ (.tail _ hla)), rfl, c, rfl⟩
    refine wpAny_bind (wpAny_pyNext_list_item (A := B.in1) hit hl (x := .ref a) (by simpa using hv) fun h₁ hit₁ hs₁ => ?_)
    obtain ⟨o₁, ho₁, hc₁, hd₁⟩ := id hit₁
    have S₁ : St g L h₁ m ((I, o₁) :: (d, od) :: l) := S.put (gl := fun o => (I, o) :: (d, od) :: l) .head hs₁ ho₁
    show wpAny _ _ (holding [.ref a] ((Builtin.Dict.pairItems (.ref a)).tryCatch _ >>= _) >>= _) _ _ _
    have hpa := S₁.get (a := a) (o := tupO [.ref x.2.1, x.2.2]) (.tail _ (.tail _ hp))
    refine wpAny_bind (wpAny_holding (wpAny_bind (wpAny_tryCatch ?_)))
    unfold Builtin.Dict.pairItems
    refine wpAny_bind (wpAny_typeOf (T := "tuple") ⟨_, hpa, rfl⟩ ?_)
    rw [if_pos (by decide)]
    refine wpAny_bind ?_
    show wpAny _ _ (load a >>= _) _ _ _
    refine wpAny_bind (wpAny_load hpa ?_)
    refine wpAny_pure (wpAny_pure ?_)
    show wpAny _ _ (holding [.ref x.2.1, x.2.2] (dictSet d (.ref x.2.1) x.2.2)) _ _ _
    have hdict : h₁.DictOfH (tupleKind bk) d (ps.take i) := H.at (S₁.get (.tail _ (.head _))) fun y hy => by
      obtain ⟨j, hj⟩ := List.mem_iff_getElem?.mp (List.mem_of_mem_take hy)
      have hjl : j < vs.length := by
        rw [← hlen]
        rcases Nat.lt_or_ge j ps.length with q | q
        · exact q
        · rw [List.getElem?_eq_none q] at hj; cases hj
      obtain ⟨y', hy', _, _, _, hk'⟩ := paired_get hps j hjl
      rw [hj] at hy'
      injection hy' with hy'
      subst hy'
      exact (hk'.mono fun p hp => .tail _ (.tail _ hp)).is S₁
    refine wpAny_holding (wpAny_dictSet_heap (s := sg s₀ h₁ t) (knd := tupleKind bk) (hsz := by rw [sizeLine_eq]; simp; omega) (by show B.units + 1 < cLine; omega) ((hk.mono fun p hp => .tail _ (.tail _ hp)).is S₁) hdict fun h₂ hd₂ hs₂ => ?_)
    obtain ⟨od₂, ho₂, H₂⟩ := DH.out hd₂
    rw [take_new hn hx] at H₂
    have S₂ := S₁.put (gl := fun o => (I, o₁) :: (d, o) :: l) (.tail .head) hs₂ ho₂
    exact wpAny_pure ⟨plainId_quiet plain_upd_loop _, ih (i + 1) h₂ _ o₁ od₂ (by omega) S₂ hc₁ hd₁ H₂⟩
theorem r_dictPairs {la : Addr} {vs : List Value} {c : Nat} {ps : List (List β × Addr × Value)} (C : Fx K A n g env L) (hn : n ≤ 100) (S : St g L h m l) (hla : (la, listOf vs.toArray c) ∈ l) (hps : PairsL bk l ps vs) (hnd : (ps.map (·.1)).Nodup) (hz : ps.length ≤ 1000)
    (hQ : ∀ d h' t' od, (d == sysModules) = false → DH (tupleKind bk) od ps → St g L h' m ((d, od) :: l) → Q (.ref d) (sg s₀ h' t')) : wpAny (model prog w) A (call (.type "dict") [.ref la]) Q E (sg s₀ h t) := by
  refine callType_codes (Q₁ := fun obj s₁ => obj = .ref h.objs.size ∧ s₁ = sg s₀ (h.push { cls := .type "dict", data := .dict #[] }) t) PySem.F.kt_called_dict (PySem.F.kt_typeCall_dict_1 _) PySem.F.entry_dict_init (kt_code_dict_new _ ⟨rfl, rfl⟩) ?_
  rintro obj s₁ ⟨rfl, rfl⟩
  have S₁ := S.push { cls := .type "dict", data := .dict #[] } rfl
  have hT : (sg s₀ (h.push { cls := .type "dict", data := .dict #[] }) t).TypeIs (.ref h.objs.size) "dict" := ⟨_, S₁.get (.head _), rfl⟩
  refine ⟨hT, PySem.F.args_dict_init_2 _ _, ?_⟩
  unfold Builtin.«dict.__init__»
  refine wpAny_bind ?_
  unfold Builtin.Dict.selfAndRest
  refine wpAny_bind (wpAny_notOrdered_dict hT ?_)
  show wpAny _ _ (pure (h.objs.size, [Value.ref la])) _ _ _
  refine wpAny_pure ?_
  show wpAny _ _ (Builtin.Dict.updateFrom "dict.__init__" h.objs.size (.ref la) [] .none) _ _ _
  unfold Builtin.Dict.updateFrom
  have hlo := S₁.get (.tail _ hla)
  refine wpAny_bind (wpAny_typeOf (T := "list") ⟨_, hlo, rfl⟩ ?_)
  rw [if_pos (by decide)]
  refine wpAny_bind (no_keys (A := A.in1.in1) hlo C.hnd fun h₂ t₂ k₂ => ?_)
  have S₂ := S₁.grow (h' := h₂) k₂
  simp only [Option.isNone_none, if_true]
  refine wpAny_bind (wpAny_rule ?_)
  refine wpAny_bind (wpAny_pyIter_list (s := sg s₀ h₂ t₂) (items := vs.toArray) ⟨_, S₂.get (.tail _ hla), rfl, c, rfl⟩ ?_)
  have S₃ := S₂.push { cls := .type "list_iterator", data := .fields #[.ref la, .int 0 0] } rfl
  have hsys : (h.objs.size == sysModules) = false := S.F.notModules (modules_low C.nolimit)
  refine wpAny_pure ⟨plainId_quiet plain_upd_loop _, ?_⟩
  refine upd_loop (B := A.in1) (bk := bk) (ps := ps) (C.room (r := 4) hn (Nat.le_refl _) rfl) C.hnd hla hps hnd hz (fun h' t' od H S' => ?_) ps.length 0 _ _ _ _ (by omega) S₃ rfl rfl ?_
  · exact ⟨rfl, hQ _ h' t' od hsys H S'⟩
  · exact Emp.dh ⟨⟨rfl, rfl, rfl⟩, 0, rfl⟩
end
end Mine

namespace Mine

/-! what a table of colours says -/
section
variable {κ : Type} [DecidableEq κ]
noncomputable def lk (xs : List (κ × Addr × Value)) (k : κ) : Option Int := (atKey xs k).map fun p => intV p.2
theorem atKey_cons (x : κ × Addr × Value) (r : List (κ × Addr × Value)) (k : κ) : atKey (x :: r) k = if x.1 = k then some x.2 else atKey r k := by
  unfold atKey
  rw [List.find?_cons]
  by_cases e : x.1 = k <;> simp [e]
theorem atKey_append (xs ys : List (κ × Addr × Value)) (k : κ) : atKey (xs ++ ys) k = (atKey xs k).or (atKey ys k) := by
  induction xs with
  | nil => simp [atKey]
  | cons x r ih =>
    rw [List.cons_append, atKey_cons, atKey_cons, ih]
    split <;> simp
theorem atKey_putAt (xs : List (κ × Addr × Value)) (k k' : κ) (v : Value) : (atKey (xs.map (putAt k v)) k').map (fun p => p.2) = if k' = k then (atKey xs k').map (fun _ => v) else (atKey xs k').map (fun p => p.2) := by
  induction xs with
  | nil => simp [atKey]
  | cons x r ih =>
    rw [List.map_cons, atKey_cons, atKey_cons]
    unfold putAt at ih ⊢
    by_cases e : x.1 = k
    · by_cases e2 : k' = k
      · subst e2; simp [e]
      · have : ¬ x.1 = k' := fun q => e2 (q.symm.trans e)
        simp only [e, if_true, if_neg e2] at ih ⊢
        rw [if_neg (fun q => e2 q.symm), if_neg (fun q => e2 q.symm)]
        exact ih
    · simp only [if_neg e] at ih ⊢
      by_cases e2 : x.1 = k'
      · have : ¬ k' = k := fun q => e (e2.trans q)
        simp [e2, this]
      · simp only [if_neg e2]
        exact ih
theorem lk_eq (xs : List (κ × Addr × Value)) (k : κ) : lk xs k = ((atKey xs k).map (fun p => p.2)).map intV := by
  unfold lk; cases atKey xs k <;> rfl
theorem lk_stored (xs : List (κ × Addr × Value)) (k k' : κ) (a : Addr) (v : Value) : lk (storedH xs k a v) k' = if k' = k then some (intV v) else lk xs k' := by
  unfold storedH
  split
  · rename_i h
    rw [lk_eq, atKey_putAt]
    by_cases e : k' = k
    · subst e
      rw [if_pos rfl, if_pos rfl]
      cases hx : atKey xs k' with
      | none => rw [hx] at h; cases h
      | some p => rfl
    · rw [if_neg e, if_neg e, ← lk_eq]
  · rename_i h
    have h0 : atKey xs k = none := by cases hx : atKey xs k with
      | none => rfl
      | some p => rw [hx] at h; exact absurd rfl h
    unfold lk
    rw [atKey_append]
    by_cases e : k' = k
    · subst e
      rw [h0, if_pos rfl]
      simp [atKey]
    · rw [if_neg e]
      have : atKey [(k, a, v)] k' = none := by
        rw [atKey_cons, if_neg (fun q => e q.symm)]; rfl
      rw [this]
      cases atKey xs k' <;> rfl
theorem atKey_filter (p : κ → Bool) (xs : List (κ × Addr × Value)) (k : κ) : atKey (xs.filter fun x => p x.1) k = if p k = true then atKey xs k else none := by
  induction xs with
  | nil => simp [atKey]
  | cons x r ih =>
    rw [List.filter_cons, atKey_cons]
    by_cases e : x.1 = k
    · subst e
      by_cases h : p x.1 = true
      · simp [h, atKey_cons]
      · rw [if_neg h, ih]; simp [h]
    · rw [if_neg e]
      by_cases h : p x.1 = true
      · rw [if_pos h, atKey_cons, if_neg e, ih]
      · rw [if_neg h, ih]
theorem lk_filter (p : κ → Bool) (xs : List (κ × Addr × Value)) (k : κ) : lk (xs.filter fun x => p x.1) k = if p k = true then lk xs k else none := by
  unfold lk; rw [atKey_filter]; split <;> rfl
theorem lk_without (xs : List (κ × Addr × Value)) (k k' : κ) : lk (withoutH xs k) k' = if k' = k then none else lk xs k' := by
  unfold withoutH
  rw [lk_filter (fun y => !decide (y = k))]
  by_cases e : k' = k <;> simp [e]
theorem lk_some {xs : List (κ × Addr × Value)} {k : κ} {ka : Addr} {v : Value} (h : atKey xs k = some (ka, v)) : lk xs k = some (intV v) := by unfold lk; rw [h]; rfl
theorem lk_none {xs : List (κ × Addr × Value)} {k : κ} (h : atKey xs k = none) : lk xs k = none := by unfold lk; rw [h]; rfl
theorem atKey_mem {xs : List (κ × Addr × Value)} {k : κ} {p : Addr × Value} (h : atKey xs k = some p) : (k, p) ∈ xs := by
  unfold atKey at h
  cases hx : xs.find? (fun x => decide (x.1 = k)) with
  | none => rw [hx] at h; cases h
  | some x =>
    rw [hx] at h
    injection h with h
    have h1 := List.find?_some hx
    have h2 := List.mem_of_find?_eq_some hx
    rw [← h, ← of_decide_eq_true h1]
    exact h2
theorem without_mid {A B : List (κ × Addr × Value)} {x : κ × Addr × Value} (hn : ((A ++ x :: B).map (·.1)).Nodup) : withoutH (A ++ x :: B) x.1 = A ++ B := by
  unfold withoutH
  rw [List.map_append, List.map_cons, List.nodup_append] at hn
  obtain ⟨_, h2, h3⟩ := hn
  rw [List.nodup_cons] at h2
  rw [List.filter_append, List.filter_cons]
  simp only [decide_true, Bool.not_true, Bool.false_eq_true, if_false]
  congr 1
  · rw [List.filter_eq_self]
    intro y hy
    have : y.1 ≠ x.1 := h3 y.1 (List.mem_map_of_mem (f := (·.1)) hy) x.1 (.head _)
    simpa using this
  · rw [List.filter_eq_self]
    intro y hy
    have : y.1 ≠ x.1 := fun e => h2.1 (e ▸ List.mem_map_of_mem (f := (·.1)) hy)
    simpa using this
end

noncomputable abbrev SK := List (Str ⊕ Int)
noncomputable abbrev sIndex : Str := Str.ofString "index"
noncomputable abbrev sDyn : Str := Str.ofString "dynamic"
noncomputable def kOf (wo : Str) (nu : Int) : SK := [.inl wo, .inr nu]
theorem kOf_inj {a b : Str} {i j : Int} : kOf a i = kOf b j ↔ a = b ∧ i = j := by
  unfold kOf; simp
noncomputable def lfirst (wo : Str) (nu f b : Int) : Int := if wo = sIndex then palI nu else if wo = sDyn ∧ nu ∈ ([11, 14, 16, 17] : List Int) then b else f
noncomputable def valAt (xs : List (SK × Addr × Value)) (wo : Str) (nu f b : Int) : Int := (lk xs (kOf wo nu)).getD (lfirst wo nu f b)
noncomputable def VK (wo : Str) (nu : Int) : Prop := wo = sIndex → 16 ≤ nu ∧ nu < 256
/-- a good table: keys of words and numbers, ints -/
noncomputable def Good (xs : List (SK × Addr × Value)) : Prop := ∀ x ∈ xs, (∃ wo nu, x.1 = kOf wo nu ∧ VK wo nu) ∧ ∃ i t, x.2.2 = Value.int i t
theorem Good.stored {xs : List (SK × Addr × Value)} (h : Good xs) {wo : Str} {nu : Int} (hv : VK wo nu) (a : Addr) (i : Int) (t : Tok) : Good (storedH xs (kOf wo nu) a (.int i t)) := by
  intro x hx
  unfold storedH at hx
  split at hx
  · obtain ⟨y, hy, rfl⟩ := List.mem_map.mp hx
    unfold putAt
    split
    · exact ⟨(h y hy).1, _, _, rfl⟩
    · exact h y hy
  · rcases List.mem_append.mp hx with hx | hx
    · exact h x hx
    · rw [List.mem_singleton.mp hx]; exact ⟨⟨_, _, rfl, hv⟩, _, _, rfl⟩
theorem Good.sub {xs ys : List (SK × Addr × Value)} (h : Good xs) (hs : ∀ x ∈ ys, x ∈ xs) : Good ys := fun x hx => h x (hs x hx)
theorem stored_len {κ : Type} [DecidableEq κ] (xs : List (κ × Addr × Value)) (k : κ) (a : Addr) (v : Value) : (storedH xs k a v).length ≤ xs.length + 1 := by
  unfold storedH; split <;> simp
theorem without_len {κ : Type} [DecidableEq κ] (xs : List (κ × Addr × Value)) (k : κ) : (withoutH xs k).length ≤ xs.length := List.length_filter_le _ _
theorem without_sub {κ : Type} [DecidableEq κ] {xs : List (κ × Addr × Value)} {k : κ} : ∀ x ∈ withoutH xs k, x ∈ xs := fun x hx => (List.mem_filter.mp hx).1
theorem Good.val {xs : List (SK × Addr × Value)} (h : Good xs) {k : SK} {ka : Addr} {v : Value} (hk : atKey xs k = some (ka, v)) : ∃ t, v = .int (intV v) t := by
  obtain ⟨_, i, t, e⟩ := h _ (atKey_mem hk)
  exact ⟨t, by show v = _; rw [show v = Value.int i t from e]; rfl⟩
/-- a table says what another says -/
noncomputable def Agree (xs ys : List (SK × Addr × Value)) (f b : Int) : Prop := ∀ wo nu, valAt xs wo nu f b = valAt ys wo nu f b
theorem val_stored (xs : List (SK × Addr × Value)) (wo wo' : Str) (nu nu' f b : Int) (a : Addr) (i : Int) (t : Tok) : valAt (storedH xs (kOf wo nu) a (.int i t)) wo' nu' f b = if wo' = wo ∧ nu' = nu then i else valAt xs wo' nu' f b := by
  unfold valAt
  rw [lk_stored]
  by_cases e : wo' = wo ∧ nu' = nu
  · rw [if_pos (kOf_inj.mpr e), if_pos e]; rfl
  · rw [if_neg (fun q => e (kOf_inj.mp q)), if_neg e]
theorem val_without (xs : List (SK × Addr × Value)) (wo wo' : Str) (nu nu' f b : Int) : valAt (withoutH xs (kOf wo nu)) wo' nu' f b = if wo' = wo ∧ nu' = nu then lfirst wo nu f b else valAt xs wo' nu' f b := by
  unfold valAt
  rw [lk_without]
  by_cases e : wo' = wo ∧ nu' = nu
  · rw [if_pos (kOf_inj.mpr e), if_pos e, e.1, e.2]; rfl
  · rw [if_neg (fun q => e (kOf_inj.mp q)), if_neg e]
noncomputable def isWord (w : Str) (k : SK) : Bool := match k with | .inl x :: _ => decide (x = w) | _ => false
theorem isWord_k (w wo : Str) (nu : Int) : isWord w (kOf wo nu) = decide (wo = w) := rfl
theorem val_words (xs : List (SK × Addr × Value)) (w wo : Str) (nu f b : Int) : valAt (xs.filter fun x => !isWord w x.1) wo nu f b = if wo = w then lfirst wo nu f b else valAt xs wo nu f b := by
  unfold valAt
  rw [lk_filter (fun k => !isWord w k)]
  by_cases e : wo = w
  · simp [isWord_k, e]
  · simp [isWord_k, e]
end Mine

namespace Mine

/-- a key's tuple on the ledger -/
noncomputable def KeyAt (l : List (Addr × Obj)) (wo : Str) (nu : Int) (a : Addr) : Prop := ∃ t u, (a, tupO [.str wo t, .int nu u]) ∈ l
theorem KeyAt.mono {l l' : List (Addr × Obj)} {wo : Str} {nu : Int} {a : Addr} (x : KeyAt l wo nu a) (h : ∀ p ∈ l, p ∈ l') : KeyAt l' wo nu a := let ⟨t, u, hm⟩ := x; ⟨t, u, h _ hm⟩
section
variable {prog : Program} {w : World}
theorem KeyAt.tup {l : List (Addr × Obj)} {wo : Str} {nu : Int} {a : Addr} (x : KeyAt l wo nu a) : TupK (siKind prog w) l (kOf wo nu) a := by
  obtain ⟨t, u, hm⟩ := x
  refine ⟨_, hm, .cons ?_ (.cons ?_ .nil)⟩
  · exact strKind_is prog w wo t
  · exact intKind_is prog w nu u
theorem TupK.key {l : List (Addr × Obj)} {wo : Str} {nu : Int} {a : Addr} (x : TupK (siKind prog w) l (kOf wo nu) a) : KeyAt l wo nu a := by
  obtain ⟨vs, hm, hi⟩ := x
  unfold kOf at hi
  cases hi with
  | cons h1 r =>
    cases r with
    | cons h2 r =>
      cases r with
      | nil =>
        obtain ⟨t, rfl⟩ := isSI_si (x := .inl wo) h1
        obtain ⟨u, rfl⟩ := isSI_si (x := .inr nu) h2
        exact ⟨t, u, hm⟩
theorem KeyAt.obj {l : List (Addr × Obj)} {wo : Str} {nu : Int} {a : Addr} (x : KeyAt l wo nu a) : ∃ o, (a, o) ∈ l ∧ KeyObj o := let ⟨t, u, hm⟩ := x; ⟨_, hm, wo, nu, t, u, rfl⟩
/-- the keys of a good table -/
theorem key_of {l : List (Addr × Obj)} {xs : List (SK × Addr × Value)} (hk : KeysL (siKind prog w) l xs) (hg : Good xs) {x : SK × Addr × Value} (hx : x ∈ xs) : ∃ wo nu, x.1 = kOf wo nu ∧ VK wo nu ∧ KeyAt l wo nu x.2.1 := by
  obtain ⟨⟨wo, nu, e, hv⟩, _⟩ := hg x hx
  exact ⟨wo, nu, e, hv, (e ▸ hk x hx : TupK (siKind prog w) l (kOf wo nu) x.2.1).key⟩
end

section
variable {prog : Program} {w : World} {K : Frag} {A : Around} {E : Value → Shared → Prop} {n : Nat} {g h : Heap} {env : Env} {L : Addr} {m : Str → Option Value} {l : List (Addr × Obj)} {s₀ : Shared} {t : Nat} {Q : Value → Shared → Prop} {gl : Obj → List (Addr × Obj)}
theorem str_of {x y : Str} (h : (x.cps.toList == y.cps.toList) = true) : x = y := by
  have : x.cps = y.cps := Array.toList_inj.mp (by simpa using h)
  cases x; cases y; simp_all
theorem r_eqsP {x y : Str} {ta tb : Tok} (h1 : x = y → Q (.bool true) (sg s₀ h t)) (h2 : x ≠ y → Q (.bool false) (sg s₀ h t)) : wpAny (model prog w) A (compareOp .Eq (.str x ta) (.str y tb)) Q E (sg s₀ h t) := by
  refine r_eqs ?_
  cases e : (x.cps.toList == y.cps.toList) with
  | true => exact h1 (str_of e)
  | false => exact h2 fun q => by subst q; simp at e
theorem r_nesP {x y : Str} {ta tb : Tok} (h1 : x = y → Q (.bool false) (sg s₀ h t)) (h2 : x ≠ y → Q (.bool true) (sg s₀ h t)) : wpAny (model prog w) A (compareOp .NotEq (.str x ta) (.str y tb)) Q E (sg s₀ h t) := by
  refine r_nes ?_
  cases e : (x.cps.toList == y.cps.toList) with
  | true => rw [show (x.cps.toList != y.cps.toList) = false by simp [bne, e]]; exact h1 (str_of e)
  | false => rw [show (x.cps.toList != y.cps.toList) = true by simp [bne, e]]; exact h2 fun q => by subst q; simp at e
/-- a number in a tuple of numbers of the ledger -/
noncomputable def IntTup (vs : List Value) (ns : List Int) : Prop := IntsAre vs ns
theorem r_inI {a : Addr} {vs : List Value} {ns : List Int} {i : Int} {ti : Tok} (S : St g L h m l) (ha : (a, tupO vs) ∈ l) (hi : IntsAre vs ns) (h1 : i ∈ ns → Q (.bool true) (sg s₀ h t)) (h2 : i ∉ ns → Q (.bool false) (sg s₀ h t)) :
    wpAny (model prog w) A (compareOp .In (.int i ti) (.ref a)) Q E (sg s₀ h t) := by
  have key : ∀ {vs : List Value} {ns : List Int}, IntsAre vs ns → vs.any (fun v => decide (intV v = i)) = decide (i ∈ ns) := by
    intro vs ns h
    induction h with
    | nil => simp
    | cons n t r ih =>
      rw [List.any_cons, ih]
      by_cases e : n = i
      · subst e; simp [intV_int]
      · have e' : ¬ i = n := fun q => e q.symm
        simp [intV_int, e, e']
  refine SeqAt.in_tupleAt (s := sg s₀ h t) (fun v => decide (intV v = i)) ⟨_, S.get ha, rfl, 0, rfl⟩ (fun y hy => ?_) ?_
  · obtain ⟨j, tj, rfl⟩ : ∃ j tj, y = Value.int j tj := by
      obtain ⟨q, hq⟩ := List.mem_iff_getElem?.mp (by simpa using hy : y ∈ vs)
      obtain ⟨n, t, e, _⟩ := hi.at q y hq
      exact ⟨n, t, e⟩
    have := SeqAt.EqAt.int_int (A := A.in1) (s := sg s₀ h t) j tj i ti
    rwa [show (j == i) = decide (intV (Value.int j tj) = i) by by_cases e : j = i <;> simp [intV_int, e]] at this
  · rw [show vs.toArray.any (fun v => decide (intV v = i)) = decide (i ∈ ns) by rw [← Array.any_toList]; exact key hi]
    by_cases e : i ∈ ns
    · rw [decide_eq_true e]; exact h1 e
    · rw [decide_eq_false e]; exact h2 e

variable {d a : Addr} {o : Obj} {xs : List (SK × Addr × Value)} {wo : Str} {nu : Int}
noncomputable abbrev SI0 (prog : Program) (w : World) := siKind prog w
theorem r_keyin (C : Fx K A n g env L) (hn : n ≤ 100) (S : St g L h m l) (hm : (d, o) ∈ l) (H : DH (tupleKind (siKind prog w)) o xs) (hk : KeysL (siKind prog w) l xs) (hka : KeyAt l wo nu a) (hsys : (d == sysModules) = false)
    (h1 : ∀ t' ka v, atKey xs (kOf wo nu) = some (ka, v) → Q (.bool true) (sg s₀ h t')) (h2 : ∀ t', atKey xs (kOf wo nu) = none → Q (.bool false) (sg s₀ h t')) : wpAny (model prog w) A (compareOp .In (.ref a) (.ref d)) Q E (sg s₀ h t) := by
  refine r_hin C hn S hm H hk (hka.tup (prog := prog) (w := w)) hsys fun t' => ?_
  cases e : atKey xs (kOf wo nu) with
  | none => exact h2 t' e
  | some p => exact h1 t' p.1 p.2 e
/-- dict.get with a number for what is missing -/
theorem r_kget2 {f : Int} {tf : Tok} (C : Fx K A n g env L) (hn : n ≤ 100) (S : St g L h m l) (hm : (d, o) ∈ l) (H : DH (tupleKind (siKind prog w)) o xs) (hk : KeysL (siKind prog w) l xs) (hg : Good xs) (hka : KeyAt l wo nu a) (hsys : (d == sysModules) = false)
    (hQ : ∀ i ti t', i = (lk xs (kOf wo nu)).getD f → Q (.int i ti) (sg s₀ h t')) : wpAny (model prog w) A (call (.builtin "dict.get") [.ref d, .ref a, .int f tf]) Q E (sg s₀ h t) := by
  refine r_hget2 C hn S hm H hk (hka.tup (prog := prog) (w := w)) hsys fun t' => ?_
  cases e : atKey xs (kOf wo nu) with
  | none => exact hQ f tf t' (by rw [lk_none e]; rfl)
  | some p =>
    obtain ⟨t2, e2⟩ := hg.val (ka := p.1) (v := p.2) e
    show Q p.2 _
    rw [e2]
    exact hQ _ _ t' (by rw [lk_some (ka := p.1) (v := p.2) e]; rfl)
/-- a def with cells is entered -/
theorem enterC {R : Result → Shared → Prop} {name qual : Str} {params : Arguments} {body : List Stmt} {scope : Scope} {dV kV doc pm cdv ct oc : Value} {an od : Option Addr} {osl : Array (Option Value)} {f : Addr} {kw : List (Str × Value)} {vals : List Value} (names : List Str)
    (C : Fx K A n g env L) (S : St g L h m l)
    (ho : K.lookup f = some ⟨oc, od, .func (fnOf name qual params body scope dV kV doc pm an cdv ct), osl⟩) (hcd : codeIn K cdv qual = true) (hn : n < 500)
    (hbind : BindsTo (sg s₀ h t) (fnOf name qual params body scope dV kV doc pm an cdv ct) ⟨vals, kw⟩ (names.zip vals)) (hloc : ∀ y ∈ names.zip vals, scope.names.lookup y.1 = some .local) (hnd : names.Nodup) (hcn : ((cellsFrom 0 scope.names []).map (·.1)).Nodup)
    (hmL : ∀ L', bindL (envOfC qual scope L' f cdv).kindOf (names.zip vals) (fun _ => none) = mapOf names vals) (hmC : ∀ L', bindC (envOfC qual scope L' f cdv).kindOf (names.zip vals) (fun _ => none) = fun _ => none)
    (hb : ∀ g' L' h' t' env' A' cells, env' = envX qual scope L' f cdv (cellsFrom (L' + 1) scope.names []) → (∀ b o, g.get? b = some o → g'.get? b = some o) → Fx K A' (n + 1) g' env' L' → CellsAre (fun _ => none) (cellsFrom (L' + 1) scope.names []) cells → News g' L' h' (cells ++ l) → Fr g' L' h' (mapOf names vals) → (∀ p ∈ l, p.1 < L') → (l.map (·.1)).Nodup →
      wpAny (model prog w) A' (execs body env') (fun fl s' => LeaveS s₀ g L m g' L' R (flowV fl) s') (fun _ _ => False) (sg s₀ h' t'))
    (hco : scope.isCoroutine = false := by rfl) (hgen : scope.isGenerator = false := by rfl) (hk : scope.kind = .function := by rfl) : codeAny (model prog w) A (.call (.ref f) ⟨vals, kw⟩) R (sg s₀ h t) := by
  obtain ⟨A₀, base, outer, B, hA⟩ := C.B
  have nolim : g.NoLimit := by obtain ⟨p, loose, mg, mb, T⟩ := C.T; exact T.nolimit
  have X := C.inn S
  refine callX_cells (s := sg s₀ h t) (news := l) B S.F S.N nolim hA C.hf C.hk (X _ _ ho) rfl (codeRec_of X hcd) (by have := C.dep; show A.depth < 1000; omega) hbind (fun n x hx => .inl (hloc x hx)) hcn (fun g' L' h₁ tk cells FG F' N' Y B' st hlt => ?_) hco hgen hk
  rw [hmL] at F'
  rw [hmC] at Y
  refine wpAny_mono (hb g' L' h₁ tk _ _ cells rfl st (C.deeper (A₀ := A₀) st hA B' rfl hk) Y N' F' hlt S.D) (fun fl s' hl => ?_) fun _ _ x => x.elim
  obtain ⟨h'', t'', m', l', rfl, S', k⟩ := hl
  refine ⟨L', m', l', S'.F, S'.N, fun F N => ?_⟩
  cases fl <;> exact k ⟨F, N, S'.D⟩
end
end Mine

namespace Mine
inductive MidG (s₀ : Shared) (g : Heap) (L : Addr) (J : (Str → Option Value) → List (Addr × Obj) → Prop) (s' : Shared) : Prop
  | mk (h' : _) (t' : _) (m' : _) (l' : _)
    (hc0 : s' = sg s₀ h' t')
    (hc1 : St g L h' m' l')
    (hc2 : J m' l') : MidG s₀ g L J s'
section
variable {prog : Program} {w : World} {K : Frag} {A : Around} {E : Value → Shared → Prop} {n : Nat} {g h : Heap} {env : Env} {L : Addr} {m : Str → Option Value} {l : List (Addr × Obj)} {s₀ : Shared} {t : Nat} {Q : Value → Shared → Prop}
theorem mid_G {J : (Str → Option Value) → List (Addr × Obj) → Prop} (l' : List (Addr × Obj)) (S : St g L h m l) (hs : Sub l' l) (hJ : J m l') : NextIs (MidG s₀ g L J) .next (sg s₀ h t) := ⟨rfl, _, _, _, _, rfl, S.subS hs, hJ⟩
/-- an item of a short list of the ledger, whatever it is -/
theorem r_menuL {D : Addr} {its : List Value} {c : Nat} {value slice : PySem.Expr} {k : Int} {u : Tok} (S : St g L h m l) (hm : (D, listOf its.toArray c) ∈ l) (h0 : 0 ≤ k) (h1 : k < its.length) (hz : its.length < 1000) (hQ : ∀ v ∈ its, Q v (sg s₀ h t))
    (hs : subscripted slice false (.ref D) (.int k u) = operate [.ref D, .int k u] (getItem (.ref D) (.int k u)) := by with_unfolding_all rfl) :
    wpAny (model prog w) A (subscriptTail value slice (.ref D) (.int k u)) Q E (sg s₀ h t) := by
  have hk : k.toNat < its.length := by omega
  exact r_itemL S hm h0 (by omega) (by simp [hk]) (hQ _ (List.getElem_mem hk)) hs
theorem st_cells {c₁ c₂ c₃ c₄ : Addr} {o₁ o₂ o₃ o₄ : Obj} {N : Nat} (F : Fr g L h m) (hN : News g L h ([(c₁, o₁), (c₂, o₂), (c₃, o₃), (c₄, o₄)] ++ l)) (hl : ∀ p ∈ l, p.1 < N) (hd : (l.map (·.1)).Nodup)
    (h12 : c₂ < c₁) (h23 : c₃ < c₂) (h34 : c₄ < c₃) (h4 : N < c₄) : St g L h m ((c₁, o₁) :: (c₂, o₂) :: (c₃, o₃) :: (c₄, o₄) :: l) := by
  have h3 : N < c₃ := Nat.lt_trans h4 h34
  have h2 : N < c₂ := Nat.lt_trans h3 h23
  have h1 : N < c₁ := Nat.lt_trans h2 h12
  have h13 : c₃ < c₁ := Nat.lt_trans h23 h12
  have h24 : c₄ < c₂ := Nat.lt_trans h34 h23
  have h14 : c₄ < c₁ := Nat.lt_trans h24 h12
  have out : ∀ c, N < c → c ∉ l.map (·.1) := fun c hc q => by
    obtain ⟨p, hp, e⟩ := List.mem_map.mp q
    have := hl p hp
    rw [e] at this
    exact absurd (Nat.lt_trans hc this) (Nat.lt_irrefl _)
  refine ⟨F, hN, ?_⟩
  simp only [List.map_cons, List.nodup_cons, List.mem_cons, not_or]
  exact ⟨⟨Nat.ne_of_gt h12, Nat.ne_of_gt h13, Nat.ne_of_gt h14, out _ h1⟩, ⟨Nat.ne_of_gt h23, Nat.ne_of_gt h24, out _ h2⟩, ⟨Nat.ne_of_gt h34, out _ h3⟩, out _ h4, hd⟩
end
end Mine

namespace Mine
local macro_rules | `(tactic| walk_at $s:str) => `(tactic| k_extra $s)
section
theorem lines_D1 : True := by
  k_with_none
  k_with "subscriptTail" => ((fail_if_success (with_reducible show wpAny _ _ (subscriptTail (PySem.Expr.Name _ _) _ _ _) _ _ _)); k_dflt (refine kba_turn (value' := PySem.Expr.Name (PySem.Str.ofString "_") ⟨0, 0, 0, 0⟩) (fun _ => rfl) ?_))
  k_with "my spot" => first | exact Spot.head | (refine' Spot.tail ?zspt; (case zspt => k_extra "my spot"))
  k_with "my swap" => ((try (rename St _ _ _ _ _ => so; clear so)))
  k_with "my subl" => first | exact List.Sublist.refl _ | (refine List.Sublist.cons_cons _ ?_; k_extra "my subl") | (refine List.Sublist.cons _ ?_; k_extra "my subl")
  k_with "my dec" => first | assumption | decide | omega | ((simp only [decide_eq_true_eq, decide_eq_false_iff_not, beq_iff_eq, bne_iff_ne, ne_eq, Bool.not_eq_true, Bool.not_eq_false, Bool.not_eq_true', Bool.not_eq_false', beq_eq_false_iff_ne, bne_eq_false_iff_eq]); omega) | (simp_all; done)
  k_with "eval Name" => (k_dflt (first
    | (refine' r_local ?zhe ?zS ?zv ?zk ?zx ?zd ?_; (case zhe => assumption); (case zS => assumption); (case zv => first | exact rfl | assumption); (case zk => exact rfl); (case zx => exact rfl); (case zd => decide); k_whole)
    | (refine' r_global ?zhe ?zC ?zS ?ze ?zk ?zx ?zd ?_; (case zhe => assumption); (case zC => assumption); (case zS => assumption); (case ze => k_is); (case zk => exact rfl); (case zx => exact rfl); (case zd => decide); k_whole)
    | (refine' r_builtin ?zhe ?zC ?zS ?ze ?zv ?zn ?zk ?zx ?zd ?_; (case zhe => assumption); (case zC => assumption); (case zS => assumption); (case ze => k_is); (case zv => boot_by_name); (case zn => decide); (case zk => exact rfl); (case zx => exact rfl); (case zd => decide); k_whole)))
  k_with "storeName" => (k_dflt (refine' r_store ?zhe ?zS ?zk ?zx ?_; (case zhe => assumption); (case zS => assumption); (case zk => exact rfl); (case zx => exact rfl); k_whole); k_extra "my swap"; intro _ _ _)
  k_with "eval Constant int" => (refine r_cint ?_; intro _ _)
  k_with "eval Constant str" => (refine r_cstr ?_; intro _ _)
  k_with "eval Constant bytes" => (refine r_cbytes ?_; intro _ _)
  k_with "eval Constant bool" => (refine r_cbool ?_)
  k_with "eval Constant none" => (refine r_cnone ?_)
  k_with "binaryOp Add int int" => (refine r_add ?_; intro _ _)
  k_with "binaryOp Sub int int" => (refine r_sub ?_; intro _ _)
  k_with "binaryOp Mult int int" => (refine r_mul ?za ?_; (case za => mul_fits); intro _ _)
  k_with "binaryOp Mod int int" => (refine r_mod ?za ?_; (case za => first | decide | omega | assumption); intro _ _)
  k_with "binaryOp FloorDiv int int" => (refine r_fdiv ?za ?zb ?_; (case za => first | decide | omega); (case zb => first | decide | omega); intro _ _)
  k_with "compareOp Eq int int" => (refine r_eq ?_)
  k_with "compareOp NotEq int int" => (refine r_ne ?_)
  k_with "compareOp Lt int int" => (refine r_lt ?_)
  k_with "compareOp LtE int int" => (refine r_le ?_)
  k_with "compareOp Gt int int" => (refine r_gt ?_)
  k_with "compareOp GtE int int" => (refine r_ge ?_)
  k_with "unaryOp USub int" => (refine r_neg ?_; intro _ _)
  k_with "newTuple" => (refine' r_tuple ?zS ?zz ?_; (case zS => assumption); (case zz => exact Nat.le_of_ble_eq_true rfl); k_extra "my swap"; intro _ _ _ _)
  k_with "newList" => (refine' r_list ?zS ?zz ?_; (case zS => assumption); (case zz => exact Nat.le_of_ble_eq_true rfl); k_extra "my swap"; intro _ _ _ _)
  k_with "ite" => first | (refine PySem.W.ite_pos ?za ?_; (case za => k_extra "my dec")) | (refine PySem.W.ite_neg ?za ?_; (case za => k_extra "my dec")) | (refine split_dec ?_ ?_ <;> intro _) | (refine split_bool ?_ ?_ <;> intro _)
  k_with "my entered" => ((case C => assumption); (case S => assumption); (case k6 => k_is); (case k7 => k_is); (case kn => first | (refine up1 (by assumption) ?_; exact rfl) | omega); (case k9 => first | exact BindsTo.of_eq rfl | exact binds_K (Fx.inn (by assumption) (by assumption)) rfl (by k_is) rfl rfl rfl); (case kB => exact locs rfl); (case kD => decide); (case c2 => exact rfl); (case c3 => exact rfl); (case c4 => exact rfl); (case c5 => decide); k_extra "my swap"; intro _ _ _ _ _ _ _ _ _ _; (try dsimp only); k_extra "my fold")
  k_with "execs cons" => (refine wpAny_execs_cons ?_; (try k_extra "my fold"))
  k_with "execs nil" => refine wpAny_execs_nil ?_
  k_with "exec If" => refine wpAny_If ?_
  k_with "isTrue Compare" => refine wpAny_isTrue_Compare1 ?_
  k_with "exec Return some" => refine wpAny_Return_some ?_
  k_with "eval BinOp" => refine wpAny_BinOp ?_
  k_with "truthy bool" => refine wpAny_truthy_bool ?_
  k_with "getMethod ref" => (k_dflt (refine' r_lmeth ?zS ?zm ?zs ?zt ?_; (case zS => assumption); (case zm => k_mem); (case zs => first | exact PySem.F.slot_list_append | exact PySem.F.slot_list_pop | exact PySem.F.slot_list_index); (case zt => first | exact PySem.F.type_list_append | exact PySem.F.type_list_pop | exact PySem.F.type_list_index); k_whole))
  k_with "LeaveS" => ((try dsimp only); (refine' leaveS ?zS ?_; (case zS => assumption)); k_extra "my swap"; intro _; (try dsimp only [flowV]))
  k_with "exec Assign" => (k_dflt (first
    | (refine' r_assignN ?zhe ?zhs ?_; (case zhe => assumption); (case zhs => exact rfl); k_whole)
    | (refine' r_assignT ?zhe ?zhs ?zhw ?_; (case zhe => assumption); (case zhs => exact rfl); (case zhw => exact rfl); k_whole)
    | (refine' r_assignTS ?zhe ?zhs ?zhw ?_; (case zhe => assumption); (case zhs => exact rfl); (case zhw => exact rfl); k_whole)
    | (refine' plainObj_wpAny_Assign_Attribute ?_ ?zhs; (case zhs => exact rfl); k_whole)
    | (refine' wpAny_Assign_Subscript ?_ ?zhs; (case zhs => exact rfl); k_whole)))
  k_with "assign Tuple" => (k_dflt (refine' r_unpack ?zC ?zS ?zm ?zk1 ?zk2 ?_; (case zC => assumption); (case zS => assumption); (case zm => k_mem); (case zk1 => exact rfl); (case zk2 => exact rfl); k_whole); k_extra "my swap"; intro _ _; dsimp only [assignEach, List.map])
  k_with "assignInOrder" => first | refine assignInOrder_nil ?_ | refine assignInOrder_cons ?_
  k_with "assign Name" => refine assign_Name ?_
  k_with "unpackItems ref" => (k_dflt (refine' r_unpackItems ?zC ?zS ?zm ?zk1 ?_; (case zC => assumption); (case zS => assumption); (case zm => k_mem); (case zk1 => exact rfl); k_whole); k_extra "my swap"; intro _ _; dsimp only [List.reverse, List.reverseAux, List.map])
  k_with "bindName" => refine r_bindName ?_
  k_with "my sel" => first | exact Sel.head | (refine' Sel.tail ?zsel; (case zsel => k_extra "my sel"))
  k_with "my sub" => first
    | exact Sub.refl
    | (refine' Sub.take Sel.head ?zrest; (case zrest => k_extra "my sub"))
    | ((fail_if_success (refine' Sub.probe ?zpra ?zprm; (case zprm => k_mem))); refine' Sub.skip ?zrest; (case zrest => k_extra "my sub"))
    | (refine' Sub.take ?zsel ?zrest; (case zsel => k_extra "my sel"); (case zrest => k_extra "my sub"))
    | (refine' Sub.skip ?zrest; (case zrest => k_extra "my sub"))
  k_with "getAttr ref" => (k_dflt (refine' r_getR ?zS ?zX ?zh1 ?zh2 ?zho ?zhg ?zhh ?zha ?zhn ?zhl ?zhv ?_; (case zS => assumption); (case zX => assumption); (case zh1 => k_mem); (case zh2 => k_mem); (case zho => assumption); (case zhg => k_is); (case zhh => k_is); (case zha => k_is); (case zhn => k_is); (case zhl => exact rfl); (case zhv => exact rfl); k_whole); intro _)
  k_with "setAttr ref" => (k_dflt (refine' r_setR ?zS ?zX ?zh1 ?zU ?zho ?zhs ?zhp ?zht ?zhh ?zhz ?_; (case zS => assumption); (case zX => assumption); (case zh1 => k_mem); (case zU => k_extra "my spot"); (case zho => first | assumption | exact rec_nil); (case zhs => k_is); (case zhp => k_is); (case zht => k_is); (case zhh => k_is); (case zhz => exact Nat.le_of_ble_eq_true rfl); k_whole); k_extra "my swap"; intro _ _ _ _ _; (try (rename St _ _ _ _ _ => zzS; (try dsimp only at zzS); revert zzS; intro _)))
  k_with "getMethod ref" => (k_dflt (refine' r_methR ?zS ?zX ?zh1 ?zh2 ?zho ?zhg ?zhf ?zht ?zhl ?_; (case zS => assumption); (case zX => assumption); (case zh1 => k_mem); (case zh2 => k_mem); (case zho => assumption); (case zhg => k_is); (case zhf => k_is); (case zht => k_is); (case zhl => exact rfl); k_whole))
  k_with "call builtin:list.append" => (k_dflt (refine' r_appendL ?zS ?zU ?zz ?_; (case zS => assumption); (case zU => k_extra "my spot"); (case zz => omega); k_whole); k_extra "my swap"; intro _ _ _ _; (try (rename St _ _ _ _ _ => zzS; (try dsimp only at zzS); revert zzS; intro _)))
  k_with "exec Expr" => (k_dflt (refine' r_expr ?zhe ?zhi ?zhs ?_; (case zhe => assumption); (case zhi => exact rfl); (case zhs => exact rfl); k_whole))
  k_with "call builtin:len" => (k_dflt (refine' r_lenL ?zS ?zm ?zz ?_; (case zS => assumption); (case zm => k_mem); (case zz => (try simp only [List.length_append, List.length_cons, List.length_nil]); omega); k_whole); intro _ _)
  k_with "call builtin:list.pop" => (k_dflt ((with_reducible show wpAny _ _ (call (Value.builtin _) [Value.ref _, Value.int _ _]) _ _ _); refine' r_pop0L ?zS ?zU ?zne ?zz ?_; (case zS => assumption); (case zU => k_extra "my spot"); (case zne => simp; done); (case zz => (try simp only [List.length_append, List.length_cons, List.length_nil]); omega); k_whole); k_extra "my swap"; intro _ _ _ _ _; (try (rename St _ _ _ _ _ => zzS; (try dsimp only at zzS); revert zzS; intro _)))
  k_with "callWith ref" => (k_dflt (first
    | (refine' r_callWith ?zX ?zhk ?_; (case zX => exact Fx.X (by assumption)); (case zhk => k_is); k_whole)
    | (refine' r_callWith0 ?zC ?zS ?zhk ?_; (case zC => assumption); (case zS => assumption); (case zhk => k_is); k_whole)))
  k_with "And" => ((with_reducible show Frag.In _ _ ∧ _); k_dflt (refine' r_kin ?zC ?zS ?_; (case zC => assumption); (case zS => assumption)); try dsimp only [List.nil_append, List.cons_append])
  k_with "my swapD" => ((try (rename Deck _ _ _ _ _ => so; clear so)))
  k_with "call type:range" => (k_dflt (refine' r_rangeN ?zS ?zz ?_; (case zS => assumption); (case zz => omega); k_whole); k_extra "my swap"; intro _ _ _ _ _ _ _ _)
  k_with "subscriptTail" => (k_dflt (first
    | (refine' r_itemL ?zS ?zm ?za ?zb ?zx ?_ ?zhs; (case zS => assumption); (case zm => k_mem); (case za => decide); (case zb => decide); (case zx => exact rfl); (case zhs => exact rfl); k_whole)
    | (refine' r_itemT ?zS ?zm ?za ?zb ?zx ?_ ?zhs; (case zS => assumption); (case zm => k_mem); (case za => decide); (case zb => decide); (case zx => exact rfl); (case zhs => exact rfl); k_whole)
    | (refine' r_menuB ?zC ?zS ?zl ?zb ?za ?zc ?zd ?_ ?zhs; (case zC => assumption); (case zS => assumption); (case zl => k_is); (case zb => exact rfl); (case za => omega); (case zc => (simp only [List.length_cons, List.length_nil]); omega); (case zd => decide); (case zhs => exact rfl); k_whole; intro _ _)))
  k_with "binaryOp Add ref ref" => (k_dflt (refine' r_addL ?zS ?za ?zb ?zz ?_; (case zS => assumption); (case za => k_mem); (case zb => k_mem); (case zz => (try simp only [List.length_append, List.length_cons, List.length_nil]); omega); k_whole); k_extra "my swap"; intro _ _ _ _)
  k_with "call type:tuple" => (k_dflt (refine' r_tupleOf ?zS ?za ?zz ?_; (case zS => assumption); (case za => k_mem); (case zz => (try simp only [List.length_append, List.length_cons, List.length_nil]); omega); k_whole); k_extra "my swap"; intro _ _ _ _)
  k_with "my slice" => (k_dflt (refine' r_sliceL ?zS ?zm ?zpl ?zpu ?zhs ?zht ?zhz ?_; (case zS => assumption); (case zm => k_mem); (case zpl => first | exact .none | exact .int _ _); (case zpu => first | exact .none | exact .int _ _); (case zhs => exact rfl); (case zht => exact fun _ => rfl); (case zhz => (try simp only [List.length_append, List.length_cons, List.length_nil]); omega); k_whole); k_extra "my swap"; intro _ _ _ _)
  k_with "eval Dict nil nil" => (k_dflt (refine' r_newDict ?zC ?zS ?_; (case zC => assumption); (case zS => assumption); k_whole); k_extra "my swap"; intro _ _ _ _ _ _ _)
  k_with "my slice" => ((fail_if_success (with_reducible show wpAny _ _ (subscriptTail (PySem.Expr.Name _ _) _ _ _) _ _ _)); k_dflt (refine kba_turn (value' := PySem.Expr.Name (PySem.Str.ofString "_") ⟨0, 0, 0, 0⟩) (fun _ => rfl) ?_); k_extra "my slice")
  k_with "my stop" => first
    | (with_reducible show wpAny _ _ (subscriptTail _ _ (Value.ref _) (Value.ref _)) _ _ _)
    | (with_reducible show wpAny _ _ (setItem (Value.ref _) (Value.ref _) _) _ _ _)
    | (with_reducible show wpAny _ _ (call (Value.builtin "dict.pop") _) _ _ _)
    | (with_reducible show wpAny _ _ (call (Value.builtin "dict.get") _) _ _ _)
    | (with_reducible show wpAny _ _ (call (Value.builtin "list.index") _) _ _ _)
    | (with_reducible show wpAny _ _ (compareOp _ (Value.ref _) (Value.ref _)) _ _ _)
    | (with_reducible show wpAny _ _ (pyIter (Value.ref _)) _ _ _)
  k_with "my fold" => (refine foldQ ?_; intro _ _)
  k_with "my unfold" => first | ((rename ∀ (_ : Flow) (_ : Shared), _ → _ => hq; refine hq _ _ ?_; clear hq); (rename Flow → Shared → Prop => q; clear q); (try dsimp only)) | ((rename ∀ (_ : Value) (_ : Shared), _ → _ => hq; refine hq _ _ ?_; clear hq); (rename Value → Shared → Prop => q; clear q); (try dsimp only))
  k_with "my step" => first
    | ((with_reducible show wpAny _ _ (subscriptTail _ _ (Value.ref _) (Value.ref (Array.size _))) _ _ _); k_extra "my slice")
    | ((with_reducible show wpAny _ _ (exec _ _) (NextIs _) _ _); k_extra "my fold")
    | ((fail_if_success k_extra "my stop"); first | walk1 | (dsimp only; walk1) | k_extra "my unfold")
  k_with "my go" => repeat' k_extra "my step"
  k_with "my goIf" => repeat' ((fail_if_success (with_reducible show wpAny _ _ (exec (Stmt.If _ _ _ _) _) _ _ _)); k_extra "my step")
  k_with "my goFor" => repeat' ((fail_if_success (with_reducible show wpAny _ _ (exec (Stmt.For _ _ _ _ _) _) _ _ _)); k_extra "my step")
  k_with "binaryOp LShift int int" => (refine r_shl ?za ?zb ?zc ?_; (case za => omega); (case zb => omega); (case zc => omega); intro _ _)
  k_with "binaryOp BitOr int int" => (refine r_or ?_; intro _ _)
  trivial

theorem lines_D1_0 : True := by
  k_with "my go" => repeat' (first | walk1 | (dsimp only; walk1) | k_extra "my unfold")
  k_with "subscriptTail" => (k_dflt (refine' r_dsub ?zS ?zm ?zd ?zv ?_; (case zS => assumption); (case zm => k_mem); (case zd => assumption); (case zv => rfl); k_whole); intro _)
  k_with "setItem ref str" => (k_dflt (refine' r_deckset ?zS ?zU ?zd ?_; (case zS => assumption); (case zU => k_extra "my spot"); (case zd => assumption); k_whole); k_extra "my swap"; intro _ _ _ _ _; (try (rename St _ _ _ _ _ => zzS; (try dsimp only at zzS); revert zzS; intro _)))
  k_with "call builtin:list.pop" => (k_dflt (refine' r_popInts ?zS ?zU ?zi ?zne ?zz ?_; (case zS => assumption); (case zU => k_extra "my spot"); (case zi => assumption); (case zne => simp_all; done); (case zz => omega); k_whole); k_extra "my swap"; intro _ _ _ _ _ _ _ _ _ _; (try (rename St _ _ _ _ _ => zzS; (try dsimp only at zzS); revert zzS; intro _)))
  k_with "compareOp NotEq ref ref" => (k_dflt (refine' r_neints ?zC ?zn ?zS ?za ?zb ?zi ?zj ?_; (case zC => assumption); (case zn => first | (refine up1 (by assumption) ?_; exact rfl) | omega); (case zS => assumption); (case za => k_mem); (case zb => k_mem); (case zi => assumption); (case zj => exact IntsAre.nil); k_whole))
  trivial
set_option pp.maxSteps 20000 in
set_option pp.deepTerms false in
theorem draw_code {w : World} {A : Around} {n : Nat} {g h : Heap} {env : Env} {L d c : Addr} {m : Str → Option Value} {l : List (Addr × Obj)} {s₀ : Shared} {t : Nat} {od oc : Obj} {k : Int} {tk : Tok} {R : Result → Shared → Prop}
    (C : Fx (Mine.hd.heap_39 w.params) A n g env L) (hn : n ≤ 50) (S : St g L h m ((d, od) :: (c, oc) :: l)) (D : Deck PySem.Challenge.rw_og0239_01.row.prog w od oc c) (hk : 0 < k)
    (hR : ∀ r tr h' t' od' oc', 0 ≤ r → r < k → Deck PySem.Challenge.rw_og0239_01.row.prog w od' oc' c → St g L h' m ((d, od') :: (c, oc') :: l) → R (.ok (.ret (.int r tr))) (sg s₀ h' t')) :
    codeAny (model PySem.Challenge.rw_og0239_01.row.prog w) A (.call (.ref 197) ⟨[.ref d, .int k tk], []⟩) R (sg s₀ h t) := by
  revert C; k_fill; intro C
  obtain ⟨x, tx, vs, ns, q, hd, hx0, hx1, rfl, hi, hl⟩ := D.is
  clear D
  refine' enter [Str.ofString "deck", Str.ofString "many"] ?C ?S ?k6 ?k7 ?kn ?k9 ?kB ?kD ?_ ?c2 ?c3 ?c4 ?c5
  k_extra "my entered"
  k_extra "my go"
  · rename_i S
    refine hR _ _ _ _ _ _ (Int.fmod_nonneg_of_pos _ hk) (Int.fmod_lt_of_pos _ hk) ⟨_, _, _, _, _, by assumption, hx0, hx1, rfl, by assumption, by omega⟩ (St.drop S)
  · rename_i S
    refine hR _ _ _ _ _ _ (Int.fmod_nonneg_of_pos _ hk) (Int.fmod_lt_of_pos _ hk) ⟨_, _, _, _, _, by assumption, Int.fmod_nonneg_of_pos _ (by decide), Int.fmod_lt_of_pos _ (by decide), rfl, by assumption, by omega⟩ (St.drop S)
theorem lines_D1_1 : True := by
  k_with "eval Name" => (k_dflt (first
    | (refine' r_local ?zhe ?zS ?zv ?zk ?zx ?zd ?_; (case zhe => assumption); (case zS => assumption); (case zv => assumption); (case zk => assumption); (case zx => assumption); (case zd => decide); k_whole)
    | (refine' r_global ?zhe ?zC ?zS ?ze ?zk ?zx ?zd ?_; (case zhe => assumption); (case zC => assumption); (case zS => assumption); (case ze => k_is); (case zk => assumption); (case zx => assumption); (case zd => decide); k_whole)))
  trivial
/-- a draw by name, whole -/
theorem r_draw {w : World} {A : Around} {n : Nat} {g h : Heap} {env : Env} {L d c : Addr} {m : Str → Option Value} {l r₁ r₂ : List (Addr × Obj)} {s₀ : Shared} {t : Nat} {od oc : Obj} {k : Int} {kk : Nat} {p1 p2 p3 p4 : Pos} {cn : Str} {cs : Scope} {fa : Addr} {ccd : Value} {cl : List (Str × Addr)} {Q : Value → Shared → Prop} {E : Value → Shared → Prop}
    (he : env = envX cn cs L fa ccd cl) (C : Fx (Mine.hd.heap_39 w.params) A n g env L) (hn : n ≤ 50) (S : St g L h m l) (hm : m (Str.ofString "deck") = some (.ref d)) (hk : cs.kind = .function) (hx1 : cs.names.lookup (Str.ofString "_law_draw") = some .globalImplicit) (hx2 : cs.names.lookup (Str.ofString "deck") = some .local)
    (s1 : Sel (d, od) l r₁) (s2 : Sel (c, oc) r₁ r₂) (D : Deck PySem.Challenge.rw_og0239_01.row.prog w od oc c) (k0 : 0 < k)
    (hQ : ∀ (_ : Tok) (_ : Nat) r tr h' t' od' oc', 0 ≤ r → r < k → Deck PySem.Challenge.rw_og0239_01.row.prog w od' oc' c → St g L h' m ((d, od') :: (c, oc') :: r₂) → Q (.int r tr) (sg s₀ h' t')) :
    wpAny (model PySem.Challenge.rw_og0239_01.row.prog w) A (eval (.Call (.Name (Str.ofString "_law_draw") p1) [.Name (Str.ofString "deck") p2, .Constant (.int k) kk p3] [] p4) env) Q E (sg s₀ h t) := by
  revert C; k_fill; intro C
  k_extra "my go"
  rename_i tk t'
  exact r_call (draw_code C hn (St.bring2 S s1 s2) D k0 fun r tr h' t' od' oc' a b D' S' => hQ tk t' r tr h' t' od' oc' a b D' S')

end
section
theorem lines_D2 : True := by
  k_with_none
  k_with "subscriptTail" => ((fail_if_success (with_reducible show wpAny _ _ (subscriptTail (PySem.Expr.Name _ _) _ _ _) _ _ _)); k_dflt (refine kba_turn (value' := PySem.Expr.Name (PySem.Str.ofString "_") ⟨0, 0, 0, 0⟩) (fun _ => rfl) ?_))
  k_with "my spot" => first | exact Spot.head | (refine' Spot.tail ?zspt; (case zspt => k_extra "my spot"))
  k_with "my swap" => ((try (rename St _ _ _ _ _ => so; clear so)))
  k_with "my subl" => first | exact List.Sublist.refl _ | (refine List.Sublist.cons_cons _ ?_; k_extra "my subl") | (refine List.Sublist.cons _ ?_; k_extra "my subl")
  k_with "my dec" => first | assumption | decide | omega | ((simp only [decide_eq_true_eq, decide_eq_false_iff_not, beq_iff_eq, bne_iff_ne, ne_eq, Bool.not_eq_true, Bool.not_eq_false, Bool.not_eq_true', Bool.not_eq_false', beq_eq_false_iff_ne, bne_eq_false_iff_eq]); omega) | (simp_all; done)
  k_with "eval Name" => (k_dflt (first
    | (refine' r_local ?zhe ?zS ?zv ?zk ?zx ?zd ?_; (case zhe => assumption); (case zS => assumption); (case zv => first | exact rfl | assumption); (case zk => exact rfl); (case zx => exact rfl); (case zd => decide); k_whole)
    | (refine' r_global ?zhe ?zC ?zS ?ze ?zk ?zx ?zd ?_; (case zhe => assumption); (case zC => assumption); (case zS => assumption); (case ze => k_is); (case zk => exact rfl); (case zx => exact rfl); (case zd => decide); k_whole)
    | (refine' r_builtin ?zhe ?zC ?zS ?ze ?zv ?zn ?zk ?zx ?zd ?_; (case zhe => assumption); (case zC => assumption); (case zS => assumption); (case ze => k_is); (case zv => boot_by_name); (case zn => decide); (case zk => exact rfl); (case zx => exact rfl); (case zd => decide); k_whole)))
  k_with "storeName" => (k_dflt (refine' r_store ?zhe ?zS ?zk ?zx ?_; (case zhe => assumption); (case zS => assumption); (case zk => exact rfl); (case zx => exact rfl); k_whole); k_extra "my swap"; intro _ _ _)
  k_with "eval Constant int" => (refine r_cint ?_; intro _ _)
  k_with "eval Constant str" => (refine r_cstr ?_; intro _ _)
  k_with "eval Constant bytes" => (refine r_cbytes ?_; intro _ _)
  k_with "eval Constant bool" => (refine r_cbool ?_)
  k_with "eval Constant none" => (refine r_cnone ?_)
  k_with "binaryOp Add int int" => (refine r_add ?_; intro _ _)
  k_with "binaryOp Sub int int" => (refine r_sub ?_; intro _ _)
  k_with "binaryOp Mult int int" => (refine r_mul ?za ?_; (case za => mul_fits); intro _ _)
  k_with "binaryOp Mod int int" => (refine r_mod ?za ?_; (case za => first | decide | omega | assumption); intro _ _)
  k_with "binaryOp FloorDiv int int" => (refine r_fdiv ?za ?zb ?_; (case za => first | decide | omega); (case zb => first | decide | omega); intro _ _)
  k_with "compareOp Eq int int" => (refine r_eq ?_)
  k_with "compareOp NotEq int int" => (refine r_ne ?_)
  k_with "compareOp Lt int int" => (refine r_lt ?_)
  k_with "compareOp LtE int int" => (refine r_le ?_)
  k_with "compareOp Gt int int" => (refine r_gt ?_)
  k_with "compareOp GtE int int" => (refine r_ge ?_)
  k_with "unaryOp USub int" => (refine r_neg ?_; intro _ _)
  k_with "newTuple" => (refine' r_tuple ?zS ?zz ?_; (case zS => assumption); (case zz => exact Nat.le_of_ble_eq_true rfl); k_extra "my swap"; intro _ _ _ _)
  k_with "newList" => (refine' r_list ?zS ?zz ?_; (case zS => assumption); (case zz => exact Nat.le_of_ble_eq_true rfl); k_extra "my swap"; intro _ _ _ _)
  k_with "ite" => first | (refine PySem.W.ite_pos ?za ?_; (case za => k_extra "my dec")) | (refine PySem.W.ite_neg ?za ?_; (case za => k_extra "my dec")) | (refine split_dec ?_ ?_ <;> intro _) | (refine split_bool ?_ ?_ <;> intro _)
  k_with "my entered" => ((case C => assumption); (case S => assumption); (case k6 => k_is); (case k7 => k_is); (case kn => first | (refine up1 (by assumption) ?_; exact rfl) | omega); (case k9 => first | exact BindsTo.of_eq rfl | exact binds_K (Fx.inn (by assumption) (by assumption)) rfl (by k_is) rfl rfl rfl); (case kB => exact locs rfl); (case kD => decide); (case c2 => exact rfl); (case c3 => exact rfl); (case c4 => exact rfl); (case c5 => decide); k_extra "my swap"; intro _ _ _ _ _ _ _ _ _ _; (try dsimp only); k_extra "my fold")
  k_with "execs cons" => (refine wpAny_execs_cons ?_; (try k_extra "my fold"))
  k_with "execs nil" => refine wpAny_execs_nil ?_
  k_with "exec If" => refine wpAny_If ?_
  k_with "isTrue Compare" => refine wpAny_isTrue_Compare1 ?_
  k_with "exec Return some" => refine wpAny_Return_some ?_
  k_with "eval BinOp" => refine wpAny_BinOp ?_
  k_with "truthy bool" => refine wpAny_truthy_bool ?_
  k_with "getMethod ref" => (k_dflt (refine' r_lmeth ?zS ?zm ?zs ?zt ?_; (case zS => assumption); (case zm => k_mem); (case zs => first | exact PySem.F.slot_list_append | exact PySem.F.slot_list_pop | exact PySem.F.slot_list_index); (case zt => first | exact PySem.F.type_list_append | exact PySem.F.type_list_pop | exact PySem.F.type_list_index); k_whole))
  k_with "LeaveS" => ((try dsimp only); (refine' leaveS ?zS ?_; (case zS => assumption)); k_extra "my swap"; intro _; (try dsimp only [flowV]))
  k_with "exec Assign" => (k_dflt (first
    | (refine' r_assignN ?zhe ?zhs ?_; (case zhe => assumption); (case zhs => exact rfl); k_whole)
    | (refine' r_assignT ?zhe ?zhs ?zhw ?_; (case zhe => assumption); (case zhs => exact rfl); (case zhw => exact rfl); k_whole)
    | (refine' r_assignTS ?zhe ?zhs ?zhw ?_; (case zhe => assumption); (case zhs => exact rfl); (case zhw => exact rfl); k_whole)
    | (refine' plainObj_wpAny_Assign_Attribute ?_ ?zhs; (case zhs => exact rfl); k_whole)
    | (refine' wpAny_Assign_Subscript ?_ ?zhs; (case zhs => exact rfl); k_whole)))
  k_with "assign Tuple" => (k_dflt (refine' r_unpack ?zC ?zS ?zm ?zk1 ?zk2 ?_; (case zC => assumption); (case zS => assumption); (case zm => k_mem); (case zk1 => exact rfl); (case zk2 => exact rfl); k_whole); k_extra "my swap"; intro _ _; dsimp only [assignEach, List.map])
  k_with "assignInOrder" => first | refine assignInOrder_nil ?_ | refine assignInOrder_cons ?_
  k_with "assign Name" => refine assign_Name ?_
  k_with "unpackItems ref" => (k_dflt (refine' r_unpackItems ?zC ?zS ?zm ?zk1 ?_; (case zC => assumption); (case zS => assumption); (case zm => k_mem); (case zk1 => exact rfl); k_whole); k_extra "my swap"; intro _ _; dsimp only [List.reverse, List.reverseAux, List.map])
  k_with "bindName" => refine r_bindName ?_
  k_with "my sel" => first | exact Sel.head | (refine' Sel.tail ?zsel; (case zsel => k_extra "my sel"))
  k_with "my sub" => first
    | exact Sub.refl
    | (refine' Sub.take Sel.head ?zrest; (case zrest => k_extra "my sub"))
    | ((fail_if_success (refine' Sub.probe ?zpra ?zprm; (case zprm => k_mem))); refine' Sub.skip ?zrest; (case zrest => k_extra "my sub"))
    | (refine' Sub.take ?zsel ?zrest; (case zsel => k_extra "my sel"); (case zrest => k_extra "my sub"))
    | (refine' Sub.skip ?zrest; (case zrest => k_extra "my sub"))
  k_with "getAttr ref" => (k_dflt (refine' r_getR ?zS ?zX ?zh1 ?zh2 ?zho ?zhg ?zhh ?zha ?zhn ?zhl ?zhv ?_; (case zS => assumption); (case zX => assumption); (case zh1 => k_mem); (case zh2 => k_mem); (case zho => assumption); (case zhg => k_is); (case zhh => k_is); (case zha => k_is); (case zhn => k_is); (case zhl => exact rfl); (case zhv => exact rfl); k_whole); intro _)
  k_with "setAttr ref" => (k_dflt (refine' r_setR ?zS ?zX ?zh1 ?zU ?zho ?zhs ?zhp ?zht ?zhh ?zhz ?_; (case zS => assumption); (case zX => assumption); (case zh1 => k_mem); (case zU => k_extra "my spot"); (case zho => first | assumption | exact rec_nil); (case zhs => k_is); (case zhp => k_is); (case zht => k_is); (case zhh => k_is); (case zhz => exact Nat.le_of_ble_eq_true rfl); k_whole); k_extra "my swap"; intro _ _ _ _ _; (try (rename St _ _ _ _ _ => zzS; (try dsimp only at zzS); revert zzS; intro _)))
  k_with "getMethod ref" => (k_dflt (refine' r_methR ?zS ?zX ?zh1 ?zh2 ?zho ?zhg ?zhf ?zht ?zhl ?_; (case zS => assumption); (case zX => assumption); (case zh1 => k_mem); (case zh2 => k_mem); (case zho => assumption); (case zhg => k_is); (case zhf => k_is); (case zht => k_is); (case zhl => exact rfl); k_whole))
  k_with "call builtin:list.append" => (k_dflt (refine' r_appendL ?zS ?zU ?zz ?_; (case zS => assumption); (case zU => k_extra "my spot"); (case zz => omega); k_whole); k_extra "my swap"; intro _ _ _ _; (try (rename St _ _ _ _ _ => zzS; (try dsimp only at zzS); revert zzS; intro _)))
  k_with "exec Expr" => (k_dflt (refine' r_expr ?zhe ?zhi ?zhs ?_; (case zhe => assumption); (case zhi => exact rfl); (case zhs => exact rfl); k_whole))
  k_with "call builtin:len" => (k_dflt (refine' r_lenL ?zS ?zm ?zz ?_; (case zS => assumption); (case zm => k_mem); (case zz => (try simp only [List.length_append, List.length_cons, List.length_nil]); omega); k_whole); intro _ _)
  k_with "call builtin:list.pop" => (k_dflt ((with_reducible show wpAny _ _ (call (Value.builtin _) [Value.ref _, Value.int _ _]) _ _ _); refine' r_pop0L ?zS ?zU ?zne ?zz ?_; (case zS => assumption); (case zU => k_extra "my spot"); (case zne => simp; done); (case zz => (try simp only [List.length_append, List.length_cons, List.length_nil]); omega); k_whole); k_extra "my swap"; intro _ _ _ _ _; (try (rename St _ _ _ _ _ => zzS; (try dsimp only at zzS); revert zzS; intro _)))
  k_with "callWith ref" => (k_dflt (first
    | (refine' r_callWith ?zX ?zhk ?_; (case zX => exact Fx.X (by assumption)); (case zhk => k_is); k_whole)
    | (refine' r_callWith0 ?zC ?zS ?zhk ?_; (case zC => assumption); (case zS => assumption); (case zhk => k_is); k_whole)))
  k_with "And" => ((with_reducible show Frag.In _ _ ∧ _); k_dflt (refine' r_kin ?zC ?zS ?_; (case zC => assumption); (case zS => assumption)); try dsimp only [List.nil_append, List.cons_append])
  k_with "my swapD" => ((try (rename Deck _ _ _ _ _ => so; clear so)))
  k_with "call type:range" => (k_dflt (refine' r_rangeN ?zS ?zz ?_; (case zS => assumption); (case zz => omega); k_whole); k_extra "my swap"; intro _ _ _ _ _ _ _ _)
  k_with "subscriptTail" => (k_dflt (first
    | (refine' r_itemL ?zS ?zm ?za ?zb ?zx ?_ ?zhs; (case zS => assumption); (case zm => k_mem); (case za => decide); (case zb => decide); (case zx => exact rfl); (case zhs => exact rfl); k_whole)
    | (refine' r_itemT ?zS ?zm ?za ?zb ?zx ?_ ?zhs; (case zS => assumption); (case zm => k_mem); (case za => decide); (case zb => decide); (case zx => exact rfl); (case zhs => exact rfl); k_whole)
    | (refine' r_menuB ?zC ?zS ?zl ?zb ?za ?zc ?zd ?_ ?zhs; (case zC => assumption); (case zS => assumption); (case zl => k_is); (case zb => exact rfl); (case za => omega); (case zc => (simp only [List.length_cons, List.length_nil]); omega); (case zd => decide); (case zhs => exact rfl); k_whole; intro _ _)))
  k_with "binaryOp Add ref ref" => (k_dflt (refine' r_addL ?zS ?za ?zb ?zz ?_; (case zS => assumption); (case za => k_mem); (case zb => k_mem); (case zz => (try simp only [List.length_append, List.length_cons, List.length_nil]); omega); k_whole); k_extra "my swap"; intro _ _ _ _)
  k_with "call type:tuple" => (k_dflt (refine' r_tupleOf ?zS ?za ?zz ?_; (case zS => assumption); (case za => k_mem); (case zz => (try simp only [List.length_append, List.length_cons, List.length_nil]); omega); k_whole); k_extra "my swap"; intro _ _ _ _)
  k_with "my slice" => (k_dflt (refine' r_sliceL ?zS ?zm ?zpl ?zpu ?zhs ?zht ?zhz ?_; (case zS => assumption); (case zm => k_mem); (case zpl => first | exact .none | exact .int _ _); (case zpu => first | exact .none | exact .int _ _); (case zhs => exact rfl); (case zht => exact fun _ => rfl); (case zhz => (try simp only [List.length_append, List.length_cons, List.length_nil]); omega); k_whole); k_extra "my swap"; intro _ _ _ _)
  k_with "eval Dict nil nil" => (k_dflt (refine' r_newDict ?zC ?zS ?_; (case zC => assumption); (case zS => assumption); k_whole); k_extra "my swap"; intro _ _ _ _ _ _ _)
  k_with "my slice" => ((fail_if_success (with_reducible show wpAny _ _ (subscriptTail (PySem.Expr.Name _ _) _ _ _) _ _ _)); k_dflt (refine kba_turn (value' := PySem.Expr.Name (PySem.Str.ofString "_") ⟨0, 0, 0, 0⟩) (fun _ => rfl) ?_); k_extra "my slice")
  k_with "my stop" => first
    | (with_reducible show wpAny _ _ (subscriptTail _ _ (Value.ref _) (Value.ref _)) _ _ _)
    | (with_reducible show wpAny _ _ (setItem (Value.ref _) (Value.ref _) _) _ _ _)
    | (with_reducible show wpAny _ _ (call (Value.builtin "dict.pop") _) _ _ _)
    | (with_reducible show wpAny _ _ (call (Value.builtin "dict.get") _) _ _ _)
    | (with_reducible show wpAny _ _ (call (Value.builtin "list.index") _) _ _ _)
    | (with_reducible show wpAny _ _ (compareOp _ (Value.ref _) (Value.ref _)) _ _ _)
    | (with_reducible show wpAny _ _ (pyIter (Value.ref _)) _ _ _)
  k_with "my fold" => (refine foldQ ?_; intro _ _)
  k_with "my unfold" => first | ((rename ∀ (_ : Flow) (_ : Shared), _ → _ => hq; refine hq _ _ ?_; clear hq); (rename Flow → Shared → Prop => q; clear q); (try dsimp only)) | ((rename ∀ (_ : Value) (_ : Shared), _ → _ => hq; refine hq _ _ ?_; clear hq); (rename Value → Shared → Prop => q; clear q); (try dsimp only))
  k_with "my step" => first
    | ((with_reducible show wpAny _ _ (subscriptTail _ _ (Value.ref _) (Value.ref (Array.size _))) _ _ _); k_extra "my slice")
    | ((with_reducible show wpAny _ _ (exec _ _) (NextIs _) _ _); k_extra "my fold")
    | ((fail_if_success k_extra "my stop"); first | walk1 | (dsimp only; walk1) | k_extra "my unfold")
  k_with "my go" => repeat' k_extra "my step"
  k_with "my goIf" => repeat' ((fail_if_success (with_reducible show wpAny _ _ (exec (Stmt.If _ _ _ _) _) _ _ _)); k_extra "my step")
  k_with "my goFor" => repeat' ((fail_if_success (with_reducible show wpAny _ _ (exec (Stmt.For _ _ _ _ _) _) _ _ _)); k_extra "my step")
  k_with "binaryOp LShift int int" => (refine r_shl ?za ?zb ?zc ?_; (case za => omega); (case zb => omega); (case zc => omega); intro _ _)
  k_with "binaryOp BitOr int int" => (refine r_or ?_; intro _ _)
  trivial
theorem lines_D2_0 : True := by
  k_with "my go" => repeat' (first | walk1 | (dsimp only; walk1) | k_extra "my unfold")
  k_with "eval ListComp" => (k_dflt (refine' r_comp (fun v y => y = v) ?zC ?zS ?zhclos ?zhcell ?zhkind ?zhnames ?zhx ?zhs ?_; (case zC => assumption); (case zS => assumption); (case zhclos => exact rfl); (case zhcell => decide); (case zhkind => exact rfl); (case zhnames => decide); (case zhx => exact rfl); (case zhs => exact fun _ => rfl); k_whole))
  trivial
theorem paired_id : ∀ {vs ys : List Value}, Paired (fun v y => y = v) vs ys → ys = vs := by
  intro vs ys h
  induction h with
  | nil => rfl
  | cons e r ih => rw [e, ih]
theorem ints_mem {vs : List Value} {ns : List Int} (h : IntsAre vs ns) {v : Value} (hv : v ∈ vs) : ∃ i tk, v = .int i tk := by
  obtain ⟨i, hi⟩ := List.mem_iff_getElem?.mp hv
  obtain ⟨n, t, e, _⟩ := h.at i v hi
  exact ⟨n, t, e⟩
theorem pick40 (vs : List Value) : kms_pick vs none (some 40) = vs.take 40 := by
  simp only [kms_pick, kms_lo, kms_hi]
  simp
theorem el_int {prog : Program} {w : World} {K : Frag} {A : Around} {n : Nat} {g h : Heap} {env : Env} {L Cm : Addr} {m' : Str → Option Value} {s₀ : Shared} {t : Nat} {cn : Str} {cs : Scope} {fa : Addr} {ccd : Value} {scope : Scope} {x : Str} {i : Int} {tk : Tok} {p1 p2 p3 : Pos}
    (C : Fx K A n g env L) (he : env = envX cn cs L fa ccd []) (k : ∀ b o, g.get? b = some o → h.get? b = some o) (hn : h.Ns Cm m') (hm : m' x = some (.int i tk)) (e : nsIn K mainGlobals (Str.ofString "int") = some none) (hk : cs.kind = .function)
    (hx : (compEnvC scope [] Cm env).kindOf x = some .local) (hi : (compEnvC scope [] Cm env).kindOf (Str.ofString "int") = some .globalImplicit) (hd : (x == ("__debug__" : Str)) = false) (hs : scope.kind = .function) :
    wpAny (model prog w) A (eval (.Call (.Name (Str.ofString "int") p1) [.Name x p2] [] p3) (compEnvC scope [] Cm env)) (fun y s₄ => y = .int i tk ∧ Keeps (sg s₀ h t) s₄) (fun _ _ => False) (sg s₀ h t) := by
  have hs' : (compEnvC scope [] Cm env).scope.kind = .function := hs
  have hg : env.globals = mainGlobals := by subst he; rfl
  have hb : env.builtins = builtinsNs := by subst he; rfl
  refine PyProof.Rows.Call_Name1 (rc_built C k e (by boot_by_name) (by decide) hs' hi hg hb (by decide) ?_) rfl
  refine PyProof.Rows.callWith_type1 (e := .Name x p2) (rest := []) (PyProof.Rows.args_cons (rc_local hn hm hs' hx hd (PyProof.Rows.args_nil ?_)) rfl) rfl rfl
  exact call_int_int ⟨rfl, h, t, rfl, fun _ _ e => e⟩
theorem deck_code {w : World} {A : Around} {n : Nat} {g h : Heap} {env : Env} {L a : Addr} {m : Str → Option Value} {l : List (Addr × Obj)} {s₀ : Shared} {t : Nat} {vs : List Value} {ns : List Int} {R : Result → Shared → Prop}
    (C : Fx (Mine.hd.heap_39 w.params) A n g env L) (hn : n ≤ 50) (S : St g L h m l) (hl : g.IsList a vs.toArray) (hi : IntsAre vs ns) (hz : vs.length ≤ 100)
    (hR : ∀ d c h' t' od oc, Deck PySem.Challenge.rw_og0239_01.row.prog w od oc c → St g L h' m ((d, od) :: (c, oc) :: l) → R (.ok (.ret (.ref d))) (sg s₀ h' t')) :
    codeAny (model PySem.Challenge.rw_og0239_01.row.prog w) A (.call (.ref 190) ⟨[.ref a], []⟩) R (sg s₀ h t) := by
  revert C; k_fill; intro C
  refine' enter [Str.ofString "script"] ?C ?S ?k6 ?k7 ?kn ?k9 ?kB ?kD ?_ ?c2 ?c3 ?c4 ?c5
  k_extra "my entered"
  rename_i g' L' h' t' env' _ he st C' S' _ _
  k_extra "my go"
  refine' r_sliceOld (its := vs.toArray) (lo := none) (hi := some 40) (zs := vs.take 40) S' (hl.at (st a)) ?pl ?pu ?e ?hs ?ht ?hz ?_
  (case pl => exact .none)
  (case pu => exact .int _ _)
  (case e => exact pick40 vs)
  (case hs => exact rfl)
  (case ht => exact fun _ => rfl)
  (case hz => simp; omega)
  clear S'
  intro d h t S
  refine ⟨_, vs.take 40, 0, _, _, _, rfl, rfl, S, .head _, by simp; omega, ?el, ?_⟩
  case el =>
    intro s₀' Cm h' t' m' v hv k hn hm
    obtain ⟨i, tk, rfl⟩ := ints_mem (hi.take 40) hv
    exact el_int C' he (fun b o e => k b o (S.old e)) hn hm (by k_is) rfl rfl rfl (by decide) rfl
  intro R h t ys k hp S
  obtain rfl := paired_id hp
  k_extra "my go"
  rename St _ _ _ _ _ => S'
  have S' := St.subl (l' := (R, W.listOf (List.toArray (List.take 40 vs)) k) :: l) S' (by k_extra "my subl")
  refine' r_for ?he ?hk ?hx ?hs g' ?_
  (case he => assumption)
  (case hk => exact rfl)
  (case hx => exact rfl)
  (case hs => exact fun _ => rfl)
  walk1
  refine' iter_list (fun i m l' => m (Str.ofString "cells") = some (.ref R) ∧ (∃ x tk, m (Str.ofString "mixed") = some (.int x tk) ∧ 0 ≤ x ∧ x < 1000003) ∧ l' = (R, W.listOf (List.toArray (List.take 40 vs)) k) :: l) he C'.hnd S' ?fix ?j ?turn ?done
  case fix => rintro i m l' ⟨_, _, rfl⟩; exact .head _
  case j => exact ⟨rfl, ⟨_, _, rfl, by decide, by decide⟩, rfl⟩
  case turn =>
    rintro i v m₁ l₁ h₁ t₁ I o₁ hi' hv ⟨hc, ⟨x, tk, hx, hx0, hx1⟩, rfl⟩ S
    k_extra "my fold"
    obtain ⟨j, tj, rfl, _⟩ := (hi.take 40).at i v (by simpa using hv)
    k_extra "my go"
    rename St _ _ _ _ _ => S'
    exact turn_sub _ S' (List.Sublist.refl _) ⟨hc, ⟨_, _, rfl, Int.fmod_nonneg_of_pos _ (by decide), Int.fmod_lt_of_pos _ (by decide)⟩, rfl⟩
  rintro h' t' m' l' S ⟨hc, ⟨x, tk, hx, hx0, hx1⟩, rfl⟩
  k_extra "my go"
  refine' r_dictS C' S rfl rfl rfl ?_ ?_ ?_
  · exact fun e => by cases e
  · exact Nat.le_of_ble_eq_true rfl
  intro d h o hd S
  k_extra "my go"
  refine' r_sliceRev (zs := (vs.take 40).reverse) S ?hm ?pk ?e ?hs ?ht ?hz ?_
  (case hm => k_mem)
  (case pk => exact .int _ _)
  (case e => rfl)
  (case hs => exact rfl)
  (case ht => exact fun _ => rfl)
  (case hz => simp; omega)
  intro D3 h t S
  k_extra "my go"
  refine' r_dictMade (gl := fun o => (D3, W.listOf (List.take 40 vs).reverse.toArray 0) :: (d, o) :: (R, W.listOf (List.take 40 vs).toArray k) :: l) S ?_ hd rfl (by show ([Str.ofString "cells", Str.ofString "mixed"] : List Str).Nodup; decide) ?_
  · exact .tail .head
  intro h t o' hd' S
  repeat' k_extra "my unfold"
  refine leaveS S fun S => ?_
  dsimp only [flowV]
  refine hR d D3 _ _ o' (W.listOf (List.take 40 vs).reverse.toArray 0) ⟨x, tk, _, _, _, hd', hx0, by omega, rfl, (hi.take 40).reverse, by simp; omega⟩ ?_
  exact (St.perm (l' := (d, o') :: (D3, W.listOf (List.take 40 vs).reverse.toArray 0) :: (R, W.listOf (List.take 40 vs).toArray k) :: l) S (List.Perm.swap _ _ _)).subl (by k_extra "my subl")

end
section
theorem lines_T1 : True := by
  k_with_none
  k_with "subscriptTail" => ((fail_if_success (with_reducible show wpAny _ _ (subscriptTail (PySem.Expr.Name _ _) _ _ _) _ _ _)); k_dflt (refine kba_turn (value' := PySem.Expr.Name (PySem.Str.ofString "_") ⟨0, 0, 0, 0⟩) (fun _ => rfl) ?_))
  k_with "my spot" => first | exact Spot.head | (refine' Spot.tail ?zspt; (case zspt => k_extra "my spot"))
  k_with "my swap" => ((try (rename St _ _ _ _ _ => so; clear so)))
  k_with "my subl" => first | exact List.Sublist.refl _ | (refine List.Sublist.cons_cons _ ?_; k_extra "my subl") | (refine List.Sublist.cons _ ?_; k_extra "my subl")
  k_with "my dec" => first | assumption | decide | omega | ((simp only [decide_eq_true_eq, decide_eq_false_iff_not, beq_iff_eq, bne_iff_ne, ne_eq, Bool.not_eq_true, Bool.not_eq_false, Bool.not_eq_true', Bool.not_eq_false', beq_eq_false_iff_ne, bne_eq_false_iff_eq]); omega) | (simp_all; done)
  k_with "eval Name" => (k_dflt (first
    | (refine' r_local ?zhe ?zS ?zv ?zk ?zx ?zd ?_; (case zhe => assumption); (case zS => assumption); (case zv => first | exact rfl | assumption); (case zk => exact rfl); (case zx => exact rfl); (case zd => decide); k_whole)
    | (refine' r_global ?zhe ?zC ?zS ?ze ?zk ?zx ?zd ?_; (case zhe => assumption); (case zC => assumption); (case zS => assumption); (case ze => k_is); (case zk => exact rfl); (case zx => exact rfl); (case zd => decide); k_whole)
    | (refine' r_builtin ?zhe ?zC ?zS ?ze ?zv ?zn ?zk ?zx ?zd ?_; (case zhe => assumption); (case zC => assumption); (case zS => assumption); (case ze => k_is); (case zv => boot_by_name); (case zn => decide); (case zk => exact rfl); (case zx => exact rfl); (case zd => decide); k_whole)))
  k_with "storeName" => (k_dflt (refine' r_store ?zhe ?zS ?zk ?zx ?_; (case zhe => assumption); (case zS => assumption); (case zk => exact rfl); (case zx => exact rfl); k_whole); k_extra "my swap"; intro _ _ _)
  k_with "eval Constant int" => (refine r_cint ?_; intro _ _)
  k_with "eval Constant str" => (refine r_cstr ?_; intro _ _)
  k_with "eval Constant bytes" => (refine r_cbytes ?_; intro _ _)
  k_with "eval Constant bool" => (refine r_cbool ?_)
  k_with "eval Constant none" => (refine r_cnone ?_)
  k_with "binaryOp Add int int" => (refine r_add ?_; intro _ _)
  k_with "binaryOp Sub int int" => (refine r_sub ?_; intro _ _)
  k_with "binaryOp Mult int int" => (refine r_mul ?za ?_; (case za => mul_fits); intro _ _)
  k_with "binaryOp Mod int int" => (refine r_mod ?za ?_; (case za => first | decide | omega | assumption); intro _ _)
  k_with "binaryOp FloorDiv int int" => (refine r_fdiv ?za ?zb ?_; (case za => first | decide | omega); (case zb => first | decide | omega); intro _ _)
  k_with "compareOp Eq int int" => (refine r_eq ?_)
  k_with "compareOp NotEq int int" => (refine r_ne ?_)
  k_with "compareOp Lt int int" => (refine r_lt ?_)
  k_with "compareOp LtE int int" => (refine r_le ?_)
  k_with "compareOp Gt int int" => (refine r_gt ?_)
  k_with "compareOp GtE int int" => (refine r_ge ?_)
  k_with "unaryOp USub int" => (refine r_neg ?_; intro _ _)
  k_with "newTuple" => (refine' r_tuple ?zS ?zz ?_; (case zS => assumption); (case zz => exact Nat.le_of_ble_eq_true rfl); k_extra "my swap"; intro _ _ _ _)
  k_with "newList" => (refine' r_list ?zS ?zz ?_; (case zS => assumption); (case zz => exact Nat.le_of_ble_eq_true rfl); k_extra "my swap"; intro _ _ _ _)
  k_with "ite" => first | (refine PySem.W.ite_pos ?za ?_; (case za => k_extra "my dec")) | (refine PySem.W.ite_neg ?za ?_; (case za => k_extra "my dec")) | (refine split_dec ?_ ?_ <;> intro _) | (refine split_bool ?_ ?_ <;> intro _)
  k_with "my entered" => ((case C => assumption); (case S => assumption); (case k6 => k_is); (case k7 => k_is); (case kn => first | (refine up1 (by assumption) ?_; exact rfl) | omega); (case k9 => first | exact BindsTo.of_eq rfl | exact binds_K (Fx.inn (by assumption) (by assumption)) rfl (by k_is) rfl rfl rfl); (case kB => exact locs rfl); (case kD => decide); (case c2 => exact rfl); (case c3 => exact rfl); (case c4 => exact rfl); (case c5 => decide); k_extra "my swap"; intro _ _ _ _ _ _ _ _ _ _; (try dsimp only); k_extra "my fold")
  k_with "execs cons" => (refine wpAny_execs_cons ?_; (try k_extra "my fold"))
  k_with "execs nil" => refine wpAny_execs_nil ?_
  k_with "exec If" => refine wpAny_If ?_
  k_with "isTrue Compare" => refine wpAny_isTrue_Compare1 ?_
  k_with "exec Return some" => refine wpAny_Return_some ?_
  k_with "eval BinOp" => refine wpAny_BinOp ?_
  k_with "truthy bool" => refine wpAny_truthy_bool ?_
  k_with "getMethod ref" => (k_dflt (refine' r_lmeth ?zS ?zm ?zs ?zt ?_; (case zS => assumption); (case zm => k_mem); (case zs => first | exact PySem.F.slot_list_append | exact PySem.F.slot_list_pop | exact PySem.F.slot_list_index); (case zt => first | exact PySem.F.type_list_append | exact PySem.F.type_list_pop | exact PySem.F.type_list_index); k_whole))
  k_with "LeaveS" => ((try dsimp only); (refine' leaveS ?zS ?_; (case zS => assumption)); k_extra "my swap"; intro _; (try dsimp only [flowV]))
  k_with "exec Assign" => (k_dflt (first
    | (refine' r_assignN ?zhe ?zhs ?_; (case zhe => assumption); (case zhs => exact rfl); k_whole)
    | (refine' r_assignT ?zhe ?zhs ?zhw ?_; (case zhe => assumption); (case zhs => exact rfl); (case zhw => exact rfl); k_whole)
    | (refine' r_assignTS ?zhe ?zhs ?zhw ?_; (case zhe => assumption); (case zhs => exact rfl); (case zhw => exact rfl); k_whole)
    | (refine' plainObj_wpAny_Assign_Attribute ?_ ?zhs; (case zhs => exact rfl); k_whole)
    | (refine' wpAny_Assign_Subscript ?_ ?zhs; (case zhs => exact rfl); k_whole)))
  k_with "assign Tuple" => (k_dflt (refine' r_unpack ?zC ?zS ?zm ?zk1 ?zk2 ?_; (case zC => assumption); (case zS => assumption); (case zm => k_mem); (case zk1 => exact rfl); (case zk2 => exact rfl); k_whole); k_extra "my swap"; intro _ _; dsimp only [assignEach, List.map])
  k_with "assignInOrder" => first | refine assignInOrder_nil ?_ | refine assignInOrder_cons ?_
  k_with "assign Name" => refine assign_Name ?_
  k_with "unpackItems ref" => (k_dflt (refine' r_unpackItems ?zC ?zS ?zm ?zk1 ?_; (case zC => assumption); (case zS => assumption); (case zm => k_mem); (case zk1 => exact rfl); k_whole); k_extra "my swap"; intro _ _; dsimp only [List.reverse, List.reverseAux, List.map])
  k_with "bindName" => refine r_bindName ?_
  k_with "my sel" => first | exact Sel.head | (refine' Sel.tail ?zsel; (case zsel => k_extra "my sel"))
  k_with "my sub" => first
    | exact Sub.refl
    | (refine' Sub.take Sel.head ?zrest; (case zrest => k_extra "my sub"))
    | ((fail_if_success (refine' Sub.probe ?zpra ?zprm; (case zprm => k_mem))); refine' Sub.skip ?zrest; (case zrest => k_extra "my sub"))
    | (refine' Sub.take ?zsel ?zrest; (case zsel => k_extra "my sel"); (case zrest => k_extra "my sub"))
    | (refine' Sub.skip ?zrest; (case zrest => k_extra "my sub"))
  k_with "getAttr ref" => (k_dflt (refine' r_getR ?zS ?zX ?zh1 ?zh2 ?zho ?zhg ?zhh ?zha ?zhn ?zhl ?zhv ?_; (case zS => assumption); (case zX => assumption); (case zh1 => k_mem); (case zh2 => k_mem); (case zho => assumption); (case zhg => k_is); (case zhh => k_is); (case zha => k_is); (case zhn => k_is); (case zhl => exact rfl); (case zhv => exact rfl); k_whole); intro _)
  k_with "setAttr ref" => (k_dflt (refine' r_setR ?zS ?zX ?zh1 ?zU ?zho ?zhs ?zhp ?zht ?zhh ?zhz ?_; (case zS => assumption); (case zX => assumption); (case zh1 => k_mem); (case zU => k_extra "my spot"); (case zho => first | assumption | exact rec_nil); (case zhs => k_is); (case zhp => k_is); (case zht => k_is); (case zhh => k_is); (case zhz => exact Nat.le_of_ble_eq_true rfl); k_whole); k_extra "my swap"; intro _ _ _ _ _; (try (rename St _ _ _ _ _ => zzS; (try dsimp only at zzS); revert zzS; intro _)))
  k_with "getMethod ref" => (k_dflt (refine' r_methR ?zS ?zX ?zh1 ?zh2 ?zho ?zhg ?zhf ?zht ?zhl ?_; (case zS => assumption); (case zX => assumption); (case zh1 => k_mem); (case zh2 => k_mem); (case zho => assumption); (case zhg => k_is); (case zhf => k_is); (case zht => k_is); (case zhl => exact rfl); k_whole))
  k_with "call builtin:list.append" => (k_dflt (refine' r_appendL ?zS ?zU ?zz ?_; (case zS => assumption); (case zU => k_extra "my spot"); (case zz => omega); k_whole); k_extra "my swap"; intro _ _ _ _; (try (rename St _ _ _ _ _ => zzS; (try dsimp only at zzS); revert zzS; intro _)))
  k_with "exec Expr" => (k_dflt (refine' r_expr ?zhe ?zhi ?zhs ?_; (case zhe => assumption); (case zhi => exact rfl); (case zhs => exact rfl); k_whole))
  k_with "call builtin:len" => (k_dflt (refine' r_lenL ?zS ?zm ?zz ?_; (case zS => assumption); (case zm => k_mem); (case zz => (try simp only [List.length_append, List.length_cons, List.length_nil]); omega); k_whole); intro _ _)
  k_with "call builtin:list.pop" => (k_dflt ((with_reducible show wpAny _ _ (call (Value.builtin _) [Value.ref _, Value.int _ _]) _ _ _); refine' r_pop0L ?zS ?zU ?zne ?zz ?_; (case zS => assumption); (case zU => k_extra "my spot"); (case zne => simp; done); (case zz => (try simp only [List.length_append, List.length_cons, List.length_nil]); omega); k_whole); k_extra "my swap"; intro _ _ _ _ _; (try (rename St _ _ _ _ _ => zzS; (try dsimp only at zzS); revert zzS; intro _)))
  k_with "callWith ref" => (k_dflt (first
    | (refine' r_callWith ?zX ?zhk ?_; (case zX => exact Fx.X (by assumption)); (case zhk => k_is); k_whole)
    | (refine' r_callWith0 ?zC ?zS ?zhk ?_; (case zC => assumption); (case zS => assumption); (case zhk => k_is); k_whole)))
  k_with "And" => ((with_reducible show Frag.In _ _ ∧ _); k_dflt (refine' r_kin ?zC ?zS ?_; (case zC => assumption); (case zS => assumption)); try dsimp only [List.nil_append, List.cons_append])
  k_with "my swapD" => ((try (rename Deck _ _ _ _ _ => so; clear so)))
  k_with "call type:range" => (k_dflt (refine' r_rangeN ?zS ?zz ?_; (case zS => assumption); (case zz => omega); k_whole); k_extra "my swap"; intro _ _ _ _ _ _ _ _)
  k_with "subscriptTail" => (k_dflt (first
    | (refine' r_itemL ?zS ?zm ?za ?zb ?zx ?_ ?zhs; (case zS => assumption); (case zm => k_mem); (case za => decide); (case zb => decide); (case zx => exact rfl); (case zhs => exact rfl); k_whole)
    | (refine' r_itemT ?zS ?zm ?za ?zb ?zx ?_ ?zhs; (case zS => assumption); (case zm => k_mem); (case za => decide); (case zb => decide); (case zx => exact rfl); (case zhs => exact rfl); k_whole)
    | (refine' r_menuB ?zC ?zS ?zl ?zb ?za ?zc ?zd ?_ ?zhs; (case zC => assumption); (case zS => assumption); (case zl => k_is); (case zb => exact rfl); (case za => omega); (case zc => (simp only [List.length_cons, List.length_nil]); omega); (case zd => decide); (case zhs => exact rfl); k_whole; intro _ _)))
  k_with "binaryOp Add ref ref" => (k_dflt (refine' r_addL ?zS ?za ?zb ?zz ?_; (case zS => assumption); (case za => k_mem); (case zb => k_mem); (case zz => (try simp only [List.length_append, List.length_cons, List.length_nil]); omega); k_whole); k_extra "my swap"; intro _ _ _ _)
  k_with "call type:tuple" => (k_dflt (refine' r_tupleOf ?zS ?za ?zz ?_; (case zS => assumption); (case za => k_mem); (case zz => (try simp only [List.length_append, List.length_cons, List.length_nil]); omega); k_whole); k_extra "my swap"; intro _ _ _ _)
  k_with "my slice" => (k_dflt (refine' r_sliceL ?zS ?zm ?zpl ?zpu ?zhs ?zht ?zhz ?_; (case zS => assumption); (case zm => k_mem); (case zpl => first | exact .none | exact .int _ _); (case zpu => first | exact .none | exact .int _ _); (case zhs => exact rfl); (case zht => exact fun _ => rfl); (case zhz => (try simp only [List.length_append, List.length_cons, List.length_nil]); omega); k_whole); k_extra "my swap"; intro _ _ _ _)
  k_with "eval Dict nil nil" => (k_dflt (refine' r_newDict ?zC ?zS ?_; (case zC => assumption); (case zS => assumption); k_whole); k_extra "my swap"; intro _ _ _ _ _ _ _)
  k_with "my slice" => ((fail_if_success (with_reducible show wpAny _ _ (subscriptTail (PySem.Expr.Name _ _) _ _ _) _ _ _)); k_dflt (refine kba_turn (value' := PySem.Expr.Name (PySem.Str.ofString "_") ⟨0, 0, 0, 0⟩) (fun _ => rfl) ?_); k_extra "my slice")
  k_with "my stop" => first
    | (with_reducible show wpAny _ _ (subscriptTail _ _ (Value.ref _) (Value.ref _)) _ _ _)
    | (with_reducible show wpAny _ _ (setItem (Value.ref _) (Value.ref _) _) _ _ _)
    | (with_reducible show wpAny _ _ (call (Value.builtin "dict.pop") _) _ _ _)
    | (with_reducible show wpAny _ _ (call (Value.builtin "dict.get") _) _ _ _)
    | (with_reducible show wpAny _ _ (call (Value.builtin "list.index") _) _ _ _)
    | (with_reducible show wpAny _ _ (compareOp _ (Value.ref _) (Value.ref _)) _ _ _)
    | (with_reducible show wpAny _ _ (pyIter (Value.ref _)) _ _ _)
  k_with "my fold" => (refine foldQ ?_; intro _ _)
  k_with "my unfold" => first | ((rename ∀ (_ : Flow) (_ : Shared), _ → _ => hq; refine hq _ _ ?_; clear hq); (rename Flow → Shared → Prop => q; clear q); (try dsimp only)) | ((rename ∀ (_ : Value) (_ : Shared), _ → _ => hq; refine hq _ _ ?_; clear hq); (rename Value → Shared → Prop => q; clear q); (try dsimp only))
  k_with "my step" => first
    | ((with_reducible show wpAny _ _ (subscriptTail _ _ (Value.ref _) (Value.ref (Array.size _))) _ _ _); k_extra "my slice")
    | ((with_reducible show wpAny _ _ (exec _ _) (NextIs _) _ _); k_extra "my fold")
    | ((fail_if_success k_extra "my stop"); first | walk1 | (dsimp only; walk1) | k_extra "my unfold")
  k_with "my go" => repeat' k_extra "my step"
  k_with "my goIf" => repeat' ((fail_if_success (with_reducible show wpAny _ _ (exec (Stmt.If _ _ _ _) _) _ _ _)); k_extra "my step")
  k_with "my goFor" => repeat' ((fail_if_success (with_reducible show wpAny _ _ (exec (Stmt.For _ _ _ _ _) _) _ _ _)); k_extra "my step")
  k_with "binaryOp LShift int int" => (refine r_shl ?za ?zb ?zc ?_; (case za => omega); (case zb => omega); (case zc => omega); intro _ _)
  k_with "binaryOp BitOr int int" => (refine r_or ?_; intro _ _)
  trivial
noncomputable def TRec (o : Obj) (a b : List UInt8) (s : Addr) : Prop := ∃ ta tb, Rec o [(Str.ofString "icon", .bytes a.toArray ta), (Str.ofString "window", .bytes b.toArray tb), (Str.ofString "stack", .ref s)]
theorem tinit_code {w : World} {A : Around} {n : Nat} {g h : Heap} {env : Env} {L x dx : Addr} {m : Str → Option Value} {l : List (Addr × Obj)} {s₀ : Shared} {t : Nat} {R : Result → Shared → Prop}
    (C : Fx (Mine.hd.heap_39 w.params) A n g env L) (hn : n ≤ 50) (S : St g L h m ((x, instObj 74 dx) :: (dx, dictOf [] 0) :: l))
    (hR : ∀ s h' t' od, TRec od [] [] s → St g L h' m ((x, instObj 74 dx) :: (dx, od) :: (s, W.listOf (List.toArray []) 0) :: l) → R (.ok (.ret .none)) (sg s₀ h' t')) :
    codeAny (model PySem.Challenge.rw_og0239_01.row.prog w) A (.call (.ref 50) ⟨[.ref x], []⟩) R (sg s₀ h t) := by
  revert C; k_fill; intro C
  refine' enter [Str.ofString "self"] ?C ?S ?k6 ?k7 ?kn ?k9 ?kB ?kD ?_ ?c2 ?c3 ?c4 ?c5
  k_extra "my entered"
  k_extra "my go"
  rename_i S
  exact hR _ _ _ _ ⟨_, _, by assumption⟩ (S.subS (by k_extra "my sub"))

theorem tput_code {w : World} {A : Around} {n : Nat} {g h : Heap} {env : Env} {L x dx sk : Addr} {od : Obj} {a b o : List UInt8} {m : Str → Option Value} {l : List (Addr × Obj)} {s₀ : Shared} {t : Nat} {which : Int} {tw to : Tok} {R : Result → Shared → Prop}
    (C : Fx (Mine.hd.heap_39 w.params) A n g env L) (hn : n ≤ 50) (S : St g L h m ((x, instObj 74 dx) :: (dx, od) :: l)) (ho : TRec od a b sk)
    (hR : ∀ h' t' od', TRec od' (if which = 2 then a else o) (if which = 1 then b else o) sk → St g L h' m ((x, instObj 74 dx) :: (dx, od') :: l) → R (.ok (.ret .none)) (sg s₀ h' t')) :
    codeAny (model PySem.Challenge.rw_og0239_01.row.prog w) A (.call (.ref 57) ⟨[.ref x, .int which tw, .bytes o.toArray to], []⟩) R (sg s₀ h t) := by
  revert C; k_fill; intro C
  obtain ⟨ta, tb, ho⟩ := ho
  refine' enter [Str.ofString "self", Str.ofString "which", Str.ofString "octets"] ?C ?S ?k6 ?k7 ?kn ?k9 ?kB ?kD ?_ ?c2 ?c3 ?c4 ?c5
  k_extra "my entered"
  k_extra "my go"
  all_goals (rename_i S; refine hR _ _ _ ?_ S)
  all_goals simp only [bne_iff_ne, ne_eq, Decidable.not_not, Bool.not_eq_true, bne_eq_false_iff_eq] at *
  all_goals (first | rw [if_pos (by omega)] | rw [if_neg (by omega)])
  all_goals (first | rw [if_pos (by omega)] | rw [if_neg (by omega)])
  all_goals exact ⟨_, _, by assumption⟩

theorem tpush_code {w : World} {A : Around} {n : Nat} {g h : Heap} {env : Env} {L x dx sk : Addr} {od : Obj} {a b : List UInt8} {m : Str → Option Value} {l T : List (Addr × Obj)} {us : List Value} {k : Nat} {xs : List (List UInt8 × List UInt8)} {s₀ : Shared} {t : Nat} {most : Int} {tw : Tok} {R : Result → Shared → Prop}
    (C : Fx (Mine.hd.heap_39 w.params) A n g env L) (hn : n ≤ 50) (S : St g L h m ((x, instObj 74 dx) :: (dx, od) :: (sk, W.listOf us.toArray k) :: l)) (ho : TRec od a b sk) (hs : Stk T xs us) (hz : xs.length ≤ 100)
    (hR : ∀ h' t' k' tp vs us', Stk ((tp, tupO vs) :: T) (if most < xs.length + 1 then (xs ++ [(a, b)]).tail else xs ++ [(a, b)]) us' → St g L h' m ((x, instObj 74 dx) :: (dx, od) :: (sk, W.listOf us'.toArray k') :: (tp, tupO vs) :: l) → R (.ok (.ret .none)) (sg s₀ h' t')) :
    codeAny (model PySem.Challenge.rw_og0239_01.row.prog w) A (.call (.ref 64) ⟨[.ref x, .int most tw], []⟩) R (sg s₀ h t) := by
  revert C; k_fill; intro C
  obtain ⟨ta, tb, ho⟩ := ho
  have hl := hs.length
  refine' enter [Str.ofString "self", Str.ofString "most"] ?C ?S ?k6 ?k7 ?kn ?k9 ?kB ?kD ?_ ?c2 ?c3 ?c4 ?c5
  k_extra "my entered"
  k_extra "my go"
  all_goals
    rename St _ _ _ _ _ => S
    simp only [List.length_append, List.length_cons, List.length_nil] at *
    have hst := fun tp hm => Stk.push (tp := tp) (a := a) (b := b) (ta := ta) (tb := tb) hs hm
  · refine hR _ _ _ _ _ _ ?_ (S.subS (by k_extra "my sub"))
    rw [if_pos (by omega)]
    exact (hst _ (.head _)).tail
  · refine hR _ _ _ _ _ _ ?_ (S.subS (by k_extra "my sub"))
    rw [if_neg (by omega)]
    exact hst _ (.head _)

/-- the last pair's part that a pop gives back, or the old one -/
noncomputable def lastA (xs : List (List UInt8 × List UInt8)) (r : Int) (a : List UInt8) : List UInt8 := match xs.getLast? with | some p => if r = 2 then a else p.1 | none => a
noncomputable def lastB (xs : List (List UInt8 × List UInt8)) (r : Int) (b : List UInt8) : List UInt8 := match xs.getLast? with | some p => if r = 1 then b else p.2 | none => b
theorem lastA_some {xs : List (List UInt8 × List UInt8)} {p : List UInt8 × List UInt8} (h : xs.getLast? = some p) (r : Int) (a : List UInt8) : lastA xs r a = if r = 2 then a else p.1 := by unfold lastA; rw [h]
theorem lastB_some {xs : List (List UInt8 × List UInt8)} {p : List UInt8 × List UInt8} (h : xs.getLast? = some p) (r : Int) (b : List UInt8) : lastB xs r b = if r = 1 then b else p.2 := by unfold lastB; rw [h]
theorem tpop_code {w : World} {A : Around} {n : Nat} {g h : Heap} {env : Env} {L x dx sk : Addr} {od : Obj} {a b : List UInt8} {m : Str → Option Value} {l T : List (Addr × Obj)} {us : List Value} {k : Nat} {xs : List (List UInt8 × List UInt8)} {s₀ : Shared} {t : Nat} {which : Int} {tw : Tok} {R : Result → Shared → Prop}
    (C : Fx (Mine.hd.heap_39 w.params) A n g env L) (hn : n ≤ 50) (S : St g L h m ((x, instObj 74 dx) :: (dx, od) :: (sk, W.listOf us.toArray k) :: l)) (ho : TRec od a b sk) (hs : Stk T xs us) (hT : ∀ p ∈ T, p ∈ l) (hz : xs.length ≤ 100)
    (hR : ∀ h' t' k' od' us', Stk T xs.dropLast us' → TRec od' (lastA xs which a) (lastB xs which b) sk →
      St g L h' m ((x, instObj 74 dx) :: (dx, od') :: (sk, W.listOf us'.toArray k') :: l) → R (.ok (.ret .none)) (sg s₀ h' t')) :
    codeAny (model PySem.Challenge.rw_og0239_01.row.prog w) A (.call (.ref 71) ⟨[.ref x, .int which tw], []⟩) R (sg s₀ h t) := by
  revert C; k_fill; intro C
  obtain ⟨ta, tb, ho⟩ := ho
  have hl := hs.length
  refine' enter [Str.ofString "self", Str.ofString "which"] ?C ?S ?k6 ?k7 ?kn ?k9 ?kB ?kD ?_ ?c2 ?c3 ?c4 ?c5
  k_extra "my entered"
  k_extra "my go"
  rename_i S
  refine r_neNilL (by assumption) (by omega) S (by k_mem) (by k_mem) (fun e => ?_) (fun e => ?_)
  · k_extra "my go"
    rename_i S
    subst e
    cases hs
    exact hR _ _ _ _ _ .nil ⟨_, _, ho⟩ (S.subS (by k_extra "my sub"))
  · obtain ⟨p, hp, ad, vs, he, hm, hpr⟩ := hs.last e
    obtain ⟨ti, tj, rfl⟩ : ∃ ti tj, vs = [.bytes p.1.toArray ti, .bytes p.2.toArray tj] := by
      cases hpr with | cons a r => cases r with | cons b r => cases r; obtain ⟨_, rfl⟩ := a; obtain ⟨_, rfl⟩ := b; exact ⟨_, _, rfl⟩
    k_extra "my go"
    rename St _ _ _ _ _ => S
    refine r_popL (gl := fun o => (x, instObj 74 dx) :: (dx, od) :: (sk, o) :: l) (S.subS (by k_extra "my sub")) (.tail (.tail .head)) e (by omega) fun h t k S => ?_
    rw [he]
    refine r_unpack (by assumption) S (T := ad) (items := #[.bytes p.1.toArray ti, .bytes p.2.toArray tj]) (c := 0) (.tail _ (.tail _ (.tail _ (hT _ hm)))) rfl rfl ?_
    intro h S
    dsimp only [assignEach, List.map]
    k_extra "my go"
    all_goals
      rename St _ _ _ _ _ => S
      simp only [bne_iff_ne, ne_eq, bne_eq_false_iff_eq] at *
      refine hR _ _ _ _ _ hs.dropLast ?_ S
      rw [lastA_some hp, lastB_some hp]
    all_goals (first | rw [if_pos (by omega)] | rw [if_neg (by omega)])
    all_goals (first | rw [if_pos (by omega)] | rw [if_neg (by omega)])
    all_goals exact ⟨_, _, by assumption⟩

end
section
theorem lines_T2 : True := by
  k_with_none
  k_with "subscriptTail" => ((fail_if_success (with_reducible show wpAny _ _ (subscriptTail (PySem.Expr.Name _ _) _ _ _) _ _ _)); k_dflt (refine kba_turn (value' := PySem.Expr.Name (PySem.Str.ofString "_") ⟨0, 0, 0, 0⟩) (fun _ => rfl) ?_))
  k_with "my spot" => first | exact Spot.head | (refine' Spot.tail ?zspt; (case zspt => k_extra "my spot"))
  k_with "my swap" => ((try (rename St _ _ _ _ _ => so; clear so)))
  k_with "my subl" => first | exact List.Sublist.refl _ | (refine List.Sublist.cons_cons _ ?_; k_extra "my subl") | (refine List.Sublist.cons _ ?_; k_extra "my subl")
  k_with "my dec" => first | assumption | decide | omega | ((simp only [decide_eq_true_eq, decide_eq_false_iff_not, beq_iff_eq, bne_iff_ne, ne_eq, Bool.not_eq_true, Bool.not_eq_false, Bool.not_eq_true', Bool.not_eq_false', beq_eq_false_iff_ne, bne_eq_false_iff_eq]); omega) | (simp_all; done)
  k_with "eval Name" => (k_dflt (first
    | (refine' r_local ?zhe ?zS ?zv ?zk ?zx ?zd ?_; (case zhe => assumption); (case zS => assumption); (case zv => first | exact rfl | assumption); (case zk => exact rfl); (case zx => exact rfl); (case zd => decide); k_whole)
    | (refine' r_global ?zhe ?zC ?zS ?ze ?zk ?zx ?zd ?_; (case zhe => assumption); (case zC => assumption); (case zS => assumption); (case ze => k_is); (case zk => exact rfl); (case zx => exact rfl); (case zd => decide); k_whole)
    | (refine' r_builtin ?zhe ?zC ?zS ?ze ?zv ?zn ?zk ?zx ?zd ?_; (case zhe => assumption); (case zC => assumption); (case zS => assumption); (case ze => k_is); (case zv => boot_by_name); (case zn => decide); (case zk => exact rfl); (case zx => exact rfl); (case zd => decide); k_whole)))
  k_with "storeName" => (k_dflt (refine' r_store ?zhe ?zS ?zk ?zx ?_; (case zhe => assumption); (case zS => assumption); (case zk => exact rfl); (case zx => exact rfl); k_whole); k_extra "my swap"; intro _ _ _)
  k_with "eval Constant int" => (refine r_cint ?_; intro _ _)
  k_with "eval Constant str" => (refine r_cstr ?_; intro _ _)
  k_with "eval Constant bytes" => (refine r_cbytes ?_; intro _ _)
  k_with "eval Constant bool" => (refine r_cbool ?_)
  k_with "eval Constant none" => (refine r_cnone ?_)
  k_with "binaryOp Add int int" => (refine r_add ?_; intro _ _)
  k_with "binaryOp Sub int int" => (refine r_sub ?_; intro _ _)
  k_with "binaryOp Mult int int" => (refine r_mul ?za ?_; (case za => mul_fits); intro _ _)
  k_with "binaryOp Mod int int" => (refine r_mod ?za ?_; (case za => first | decide | omega | assumption); intro _ _)
  k_with "binaryOp FloorDiv int int" => (refine r_fdiv ?za ?zb ?_; (case za => first | decide | omega); (case zb => first | decide | omega); intro _ _)
  k_with "compareOp Eq int int" => (refine r_eq ?_)
  k_with "compareOp NotEq int int" => (refine r_ne ?_)
  k_with "compareOp Lt int int" => (refine r_lt ?_)
  k_with "compareOp LtE int int" => (refine r_le ?_)
  k_with "compareOp Gt int int" => (refine r_gt ?_)
  k_with "compareOp GtE int int" => (refine r_ge ?_)
  k_with "unaryOp USub int" => (refine r_neg ?_; intro _ _)
  k_with "newTuple" => (refine' r_tuple ?zS ?zz ?_; (case zS => assumption); (case zz => exact Nat.le_of_ble_eq_true rfl); k_extra "my swap"; intro _ _ _ _)
  k_with "newList" => (refine' r_list ?zS ?zz ?_; (case zS => assumption); (case zz => exact Nat.le_of_ble_eq_true rfl); k_extra "my swap"; intro _ _ _ _)
  k_with "ite" => first | (refine PySem.W.ite_pos ?za ?_; (case za => k_extra "my dec")) | (refine PySem.W.ite_neg ?za ?_; (case za => k_extra "my dec")) | (refine split_dec ?_ ?_ <;> intro _) | (refine split_bool ?_ ?_ <;> intro _)
  k_with "my entered" => ((case C => assumption); (case S => assumption); (case k6 => k_is); (case k7 => k_is); (case kn => first | (refine up1 (by assumption) ?_; exact rfl) | omega); (case k9 => first | exact BindsTo.of_eq rfl | exact binds_K (Fx.inn (by assumption) (by assumption)) rfl (by k_is) rfl rfl rfl); (case kB => exact locs rfl); (case kD => decide); (case c2 => exact rfl); (case c3 => exact rfl); (case c4 => exact rfl); (case c5 => decide); k_extra "my swap"; intro _ _ _ _ _ _ _ _ _ _; (try dsimp only); k_extra "my fold")
  k_with "execs cons" => (refine wpAny_execs_cons ?_; (try k_extra "my fold"))
  k_with "execs nil" => refine wpAny_execs_nil ?_
  k_with "exec If" => refine wpAny_If ?_
  k_with "isTrue Compare" => refine wpAny_isTrue_Compare1 ?_
  k_with "exec Return some" => refine wpAny_Return_some ?_
  k_with "eval BinOp" => refine wpAny_BinOp ?_
  k_with "truthy bool" => refine wpAny_truthy_bool ?_
  k_with "getMethod ref" => (k_dflt (refine' r_lmeth ?zS ?zm ?zs ?zt ?_; (case zS => assumption); (case zm => k_mem); (case zs => first | exact PySem.F.slot_list_append | exact PySem.F.slot_list_pop | exact PySem.F.slot_list_index); (case zt => first | exact PySem.F.type_list_append | exact PySem.F.type_list_pop | exact PySem.F.type_list_index); k_whole))
  k_with "LeaveS" => ((try dsimp only); (refine' leaveS ?zS ?_; (case zS => assumption)); k_extra "my swap"; intro _; (try dsimp only [flowV]))
  k_with "exec Assign" => (k_dflt (first
    | (refine' r_assignN ?zhe ?zhs ?_; (case zhe => assumption); (case zhs => exact rfl); k_whole)
    | (refine' r_assignT ?zhe ?zhs ?zhw ?_; (case zhe => assumption); (case zhs => exact rfl); (case zhw => exact rfl); k_whole)
    | (refine' r_assignTS ?zhe ?zhs ?zhw ?_; (case zhe => assumption); (case zhs => exact rfl); (case zhw => exact rfl); k_whole)
    | (refine' plainObj_wpAny_Assign_Attribute ?_ ?zhs; (case zhs => exact rfl); k_whole)
    | (refine' wpAny_Assign_Subscript ?_ ?zhs; (case zhs => exact rfl); k_whole)))
  k_with "assign Tuple" => (k_dflt (refine' r_unpack ?zC ?zS ?zm ?zk1 ?zk2 ?_; (case zC => assumption); (case zS => assumption); (case zm => k_mem); (case zk1 => exact rfl); (case zk2 => exact rfl); k_whole); k_extra "my swap"; intro _ _; dsimp only [assignEach, List.map])
  k_with "assignInOrder" => first | refine assignInOrder_nil ?_ | refine assignInOrder_cons ?_
  k_with "assign Name" => refine assign_Name ?_
  k_with "unpackItems ref" => (k_dflt (refine' r_unpackItems ?zC ?zS ?zm ?zk1 ?_; (case zC => assumption); (case zS => assumption); (case zm => k_mem); (case zk1 => exact rfl); k_whole); k_extra "my swap"; intro _ _; dsimp only [List.reverse, List.reverseAux, List.map])
  k_with "bindName" => refine r_bindName ?_
  k_with "my sel" => first | exact Sel.head | (refine' Sel.tail ?zsel; (case zsel => k_extra "my sel"))
  k_with "my sub" => first
    | exact Sub.refl
    | (refine' Sub.take Sel.head ?zrest; (case zrest => k_extra "my sub"))
    | ((fail_if_success (refine' Sub.probe ?zpra ?zprm; (case zprm => k_mem))); refine' Sub.skip ?zrest; (case zrest => k_extra "my sub"))
    | (refine' Sub.take ?zsel ?zrest; (case zsel => k_extra "my sel"); (case zrest => k_extra "my sub"))
    | (refine' Sub.skip ?zrest; (case zrest => k_extra "my sub"))
  k_with "getAttr ref" => (k_dflt (refine' r_getR ?zS ?zX ?zh1 ?zh2 ?zho ?zhg ?zhh ?zha ?zhn ?zhl ?zhv ?_; (case zS => assumption); (case zX => assumption); (case zh1 => k_mem); (case zh2 => k_mem); (case zho => assumption); (case zhg => k_is); (case zhh => k_is); (case zha => k_is); (case zhn => k_is); (case zhl => exact rfl); (case zhv => exact rfl); k_whole); intro _)
  k_with "setAttr ref" => (k_dflt (refine' r_setR ?zS ?zX ?zh1 ?zU ?zho ?zhs ?zhp ?zht ?zhh ?zhz ?_; (case zS => assumption); (case zX => assumption); (case zh1 => k_mem); (case zU => k_extra "my spot"); (case zho => first | assumption | exact rec_nil); (case zhs => k_is); (case zhp => k_is); (case zht => k_is); (case zhh => k_is); (case zhz => exact Nat.le_of_ble_eq_true rfl); k_whole); k_extra "my swap"; intro _ _ _ _ _; (try (rename St _ _ _ _ _ => zzS; (try dsimp only at zzS); revert zzS; intro _)))
  k_with "getMethod ref" => (k_dflt (refine' r_methR ?zS ?zX ?zh1 ?zh2 ?zho ?zhg ?zhf ?zht ?zhl ?_; (case zS => assumption); (case zX => assumption); (case zh1 => k_mem); (case zh2 => k_mem); (case zho => assumption); (case zhg => k_is); (case zhf => k_is); (case zht => k_is); (case zhl => exact rfl); k_whole))
  k_with "call builtin:list.append" => (k_dflt (refine' r_appendL ?zS ?zU ?zz ?_; (case zS => assumption); (case zU => k_extra "my spot"); (case zz => omega); k_whole); k_extra "my swap"; intro _ _ _ _; (try (rename St _ _ _ _ _ => zzS; (try dsimp only at zzS); revert zzS; intro _)))
  k_with "exec Expr" => (k_dflt (refine' r_expr ?zhe ?zhi ?zhs ?_; (case zhe => assumption); (case zhi => exact rfl); (case zhs => exact rfl); k_whole))
  k_with "call builtin:len" => (k_dflt (refine' r_lenL ?zS ?zm ?zz ?_; (case zS => assumption); (case zm => k_mem); (case zz => (try simp only [List.length_append, List.length_cons, List.length_nil]); omega); k_whole); intro _ _)
  k_with "call builtin:list.pop" => (k_dflt ((with_reducible show wpAny _ _ (call (Value.builtin _) [Value.ref _, Value.int _ _]) _ _ _); refine' r_pop0L ?zS ?zU ?zne ?zz ?_; (case zS => assumption); (case zU => k_extra "my spot"); (case zne => simp; done); (case zz => (try simp only [List.length_append, List.length_cons, List.length_nil]); omega); k_whole); k_extra "my swap"; intro _ _ _ _ _; (try (rename St _ _ _ _ _ => zzS; (try dsimp only at zzS); revert zzS; intro _)))
  k_with "callWith ref" => (k_dflt (first
    | (refine' r_callWith ?zX ?zhk ?_; (case zX => exact Fx.X (by assumption)); (case zhk => k_is); k_whole)
    | (refine' r_callWith0 ?zC ?zS ?zhk ?_; (case zC => assumption); (case zS => assumption); (case zhk => k_is); k_whole)))
  k_with "And" => ((with_reducible show Frag.In _ _ ∧ _); k_dflt (refine' r_kin ?zC ?zS ?_; (case zC => assumption); (case zS => assumption)); try dsimp only [List.nil_append, List.cons_append])
  k_with "my swapD" => ((try (rename Deck _ _ _ _ _ => so; clear so)))
  k_with "call type:range" => (k_dflt (refine' r_rangeN ?zS ?zz ?_; (case zS => assumption); (case zz => omega); k_whole); k_extra "my swap"; intro _ _ _ _ _ _ _ _)
  k_with "subscriptTail" => (k_dflt (first
    | (refine' r_itemL ?zS ?zm ?za ?zb ?zx ?_ ?zhs; (case zS => assumption); (case zm => k_mem); (case za => decide); (case zb => decide); (case zx => exact rfl); (case zhs => exact rfl); k_whole)
    | (refine' r_itemT ?zS ?zm ?za ?zb ?zx ?_ ?zhs; (case zS => assumption); (case zm => k_mem); (case za => decide); (case zb => decide); (case zx => exact rfl); (case zhs => exact rfl); k_whole)
    | (refine' r_menuB ?zC ?zS ?zl ?zb ?za ?zc ?zd ?_ ?zhs; (case zC => assumption); (case zS => assumption); (case zl => k_is); (case zb => exact rfl); (case za => omega); (case zc => (simp only [List.length_cons, List.length_nil]); omega); (case zd => decide); (case zhs => exact rfl); k_whole; intro _ _)))
  k_with "binaryOp Add ref ref" => (k_dflt (refine' r_addL ?zS ?za ?zb ?zz ?_; (case zS => assumption); (case za => k_mem); (case zb => k_mem); (case zz => (try simp only [List.length_append, List.length_cons, List.length_nil]); omega); k_whole); k_extra "my swap"; intro _ _ _ _)
  k_with "call type:tuple" => (k_dflt (refine' r_tupleOf ?zS ?za ?zz ?_; (case zS => assumption); (case za => k_mem); (case zz => (try simp only [List.length_append, List.length_cons, List.length_nil]); omega); k_whole); k_extra "my swap"; intro _ _ _ _)
  k_with "my slice" => (k_dflt (refine' r_sliceL ?zS ?zm ?zpl ?zpu ?zhs ?zht ?zhz ?_; (case zS => assumption); (case zm => k_mem); (case zpl => first | exact .none | exact .int _ _); (case zpu => first | exact .none | exact .int _ _); (case zhs => exact rfl); (case zht => exact fun _ => rfl); (case zhz => (try simp only [List.length_append, List.length_cons, List.length_nil]); omega); k_whole); k_extra "my swap"; intro _ _ _ _)
  k_with "eval Dict nil nil" => (k_dflt (refine' r_newDict ?zC ?zS ?_; (case zC => assumption); (case zS => assumption); k_whole); k_extra "my swap"; intro _ _ _ _ _ _ _)
  k_with "my slice" => ((fail_if_success (with_reducible show wpAny _ _ (subscriptTail (PySem.Expr.Name _ _) _ _ _) _ _ _)); k_dflt (refine kba_turn (value' := PySem.Expr.Name (PySem.Str.ofString "_") ⟨0, 0, 0, 0⟩) (fun _ => rfl) ?_); k_extra "my slice")
  k_with "my stop" => first
    | (with_reducible show wpAny _ _ (subscriptTail _ _ (Value.ref _) (Value.ref _)) _ _ _)
    | (with_reducible show wpAny _ _ (setItem (Value.ref _) (Value.ref _) _) _ _ _)
    | (with_reducible show wpAny _ _ (call (Value.builtin "dict.pop") _) _ _ _)
    | (with_reducible show wpAny _ _ (call (Value.builtin "dict.get") _) _ _ _)
    | (with_reducible show wpAny _ _ (call (Value.builtin "list.index") _) _ _ _)
    | (with_reducible show wpAny _ _ (compareOp _ (Value.ref _) (Value.ref _)) _ _ _)
    | (with_reducible show wpAny _ _ (pyIter (Value.ref _)) _ _ _)
  k_with "my fold" => (refine foldQ ?_; intro _ _)
  k_with "my unfold" => first | ((rename ∀ (_ : Flow) (_ : Shared), _ → _ => hq; refine hq _ _ ?_; clear hq); (rename Flow → Shared → Prop => q; clear q); (try dsimp only)) | ((rename ∀ (_ : Value) (_ : Shared), _ → _ => hq; refine hq _ _ ?_; clear hq); (rename Value → Shared → Prop => q; clear q); (try dsimp only))
  k_with "my step" => first
    | ((with_reducible show wpAny _ _ (subscriptTail _ _ (Value.ref _) (Value.ref (Array.size _))) _ _ _); k_extra "my slice")
    | ((with_reducible show wpAny _ _ (exec _ _) (NextIs _) _ _); k_extra "my fold")
    | ((fail_if_success k_extra "my stop"); first | walk1 | (dsimp only; walk1) | k_extra "my unfold")
  k_with "my go" => repeat' k_extra "my step"
  k_with "my goIf" => repeat' ((fail_if_success (with_reducible show wpAny _ _ (exec (Stmt.If _ _ _ _) _) _ _ _)); k_extra "my step")
  k_with "my goFor" => repeat' ((fail_if_success (with_reducible show wpAny _ _ (exec (Stmt.For _ _ _ _ _) _) _ _ _)); k_extra "my step")
  k_with "binaryOp LShift int int" => (refine r_shl ?za ?zb ?zc ?_; (case za => omega); (case zb => omega); (case zc => omega); intro _ _)
  k_with "binaryOp BitOr int int" => (refine r_or ?_; intro _ _)
  trivial
noncomputable def LRec (o : Obj) (r kn : Addr) : Prop := Rec o [(Str.ofString "rows", .ref r), (Str.ofString "known", .ref kn)] ∧ (kn == sysModules) = false
theorem linit_code {w : World} {A : Around} {n : Nat} {g h : Heap} {env : Env} {L x dx : Addr} {m : Str → Option Value} {l : List (Addr × Obj)} {s₀ : Shared} {t : Nat} {R : Result → Shared → Prop}
    (C : Fx (Mine.hd.heap_39 w.params) A n g env L) (hn : n ≤ 50) (S : St g L h m ((x, instObj 180 dx) :: (dx, dictOf [] 0) :: l))
    (hR : ∀ r kn h' t' od ok, LRec od r kn → Emp ok → St g L h' m ((x, instObj 180 dx) :: (dx, od) :: (r, W.listOf (List.toArray []) 0) :: (kn, ok) :: l) → R (.ok (.ret .none)) (sg s₀ h' t')) :
    codeAny (model PySem.Challenge.rw_og0239_01.row.prog w) A (.call (.ref 156) ⟨[.ref x], []⟩) R (sg s₀ h t) := by
  revert C; k_fill; intro C
  refine' enter [Str.ofString "self"] ?C ?S ?k6 ?k7 ?kn ?k9 ?kB ?kD ?_ ?c2 ?c3 ?c4 ?c5
  k_extra "my entered"
  k_extra "my go"
  rename St _ _ _ _ _ => S
  refine' hR _ _ _ _ _ _ ⟨?ho, ?hsys⟩ ?hemp (S.subS ?sub)
  case ho => assumption
  case hsys => assumption
  case hemp => assumption
  case sub => k_extra "my sub"

set_option pp.maxSteps 20000 in
theorem lnum_code {w : World} {A : Around} {n : Nat} {g h : Heap} {env : Env} {L x dx r kn : Addr} {od ok : Obj} {kr : Nat} {us : List Value} {xs : List (List UInt8 × List UInt8)} {kv : List (List (List UInt8) × Addr × Value)} {m : Str → Option Value} {l T : List (Addr × Obj)} {s₀ : Shared} {t : Nat} {wo ad : List UInt8} {tw ta tm : Tok} {most : Int} {R : Result → Shared → Prop}
    (C : Fx (Mine.hd.heap_39 w.params) A n g env L) (hn : n ≤ 50) (S : St g L h m ((x, instObj 180 dx) :: (dx, od) :: (r, W.listOf us.toArray kr) :: (kn, ok) :: (l ++ T))) (ho : LRec od r kn) (hd : DH (tupleKind (bytesKind PySem.Challenge.rw_og0239_01.row.prog w)) ok kv)
    (hs : Stk T xs us) (hv : Nums (prog := PySem.Challenge.rw_og0239_01.row.prog) (w := w) T xs kv) (hz : xs.length ≤ 100)
    (hR : ∀ h' t' kr' ok' us' kv' T' xs' tk N, T.Sublist T' → xs' = (if (wo, ad) ∈ xs ∨ most ≤ xs.length then xs else xs ++ [(wo, ad)]) → N = (if (wo, ad) ∈ xs' then (xs'.idxOf (wo, ad) : Int) + 1 else 0) → DH (tupleKind (bytesKind PySem.Challenge.rw_og0239_01.row.prog w)) ok' kv' → Stk T' xs' us' → Nums (prog := PySem.Challenge.rw_og0239_01.row.prog) (w := w) T' xs' kv' →
      St g L h' m ((x, instObj 180 dx) :: (dx, od) :: (r, W.listOf (List.toArray us') kr') :: (kn, ok') :: (l ++ T')) → R (.ok (.ret (.int N tk))) (sg s₀ h' t')) :
    codeAny (model PySem.Challenge.rw_og0239_01.row.prog w) A (.call (.ref 163) ⟨[.ref x, .bytes wo.toArray tw, .bytes ad.toArray ta, .int most tm], []⟩) R (sg s₀ h t) := by
  revert C; k_fill; intro C
  obtain ⟨ho, hsys⟩ := ho
  have hT : ∀ p ∈ T, p ∈ l ++ T := fun p hp => List.mem_append_right _ hp
  generalize hl0 : l ++ T = l1 at S hT
  refine' enter [Str.ofString "self", Str.ofString "word", Str.ofString "address", Str.ofString "most"] ?C ?S ?k6 ?k7 ?kn ?k9 ?kB ?kD ?_ ?c2 ?c3 ?c4 ?c5
  k_extra "my entered"
  rename_i g' L' h' t' env' _ he st C' S' _ _
  k_extra "my go"
  rename St _ _ _ _ _ => S
  have kT : ∀ p ∈ T, p ∈ (x, instObj 180 dx) :: (dx, od) :: (r, W.listOf us.toArray kr) :: (kn, ok) :: l1 := fun p hp => .tail _ (.tail _ (.tail _ (.tail _ (hT p hp))))
  refine r_hnotin C' (up1 hn rfl) S (by k_mem) hd (hv.keys.mono fun p hp => .tail _ (kT p hp)) (tupK_bytes (.head _)) hsys ?_
  intro t
  by_cases hm : (wo, ad) ∈ xs
  · obtain ⟨ka, tk, hka⟩ := hv.found hd.nodup hm
    rw [hka]
    simp only [Option.isSome_some, Bool.not_true]
    k_extra "my go"
    rename St _ _ _ _ _ => S
    refine r_hget (v := .int ((xs.idxOf (wo, ad) : Int) + 1) tk) (ka := ka) C' (up1 hn rfl) S (by k_mem) hd (hv.keys.mono fun p hp => .tail _ (.tail _ (kT p hp))) (tupK_bytes (.head _)) hka ?_ rfl
    intro t
    k_extra "my go"
    rename St _ _ _ _ _ => S
    refine' hR _ _ kr ok us kv T xs tk _ (.refl _) ?e1 ?e2 hd hs hv (hl0 ▸ S.subS ?sub)
    case e1 => rw [if_pos (.inl hm)]
    case e2 => rw [if_pos hm]
    case sub => k_extra "my sub"
  · rw [hv.missing hm]
    simp only [Option.isSome_none, Bool.not_false]
    have hl := hs.length
    k_extra "my go"
    · rename St _ _ _ _ _ => S
      rename _ ≥ _ => c
      refine' hR _ _ kr ok us kv T xs _ _ (.refl _) ?e1 ?e2 hd hs hv (hl0 ▸ S.subS ?sub)
      case e1 => rw [if_pos (.inr (by omega))]
      case e2 => rw [if_neg hm]
      case sub => k_extra "my sub"
    · rename St _ _ _ _ _ => S
      rename ¬ (_ ≥ _) => c
      rename_i d2 _ _ _ _ kk _ _ _ tk _ _ d3 _ _
      have et : ((us ++ [Value.ref d2]).length : Int) = (xs.length : Int) + 1 := by simp [hl]
      rw [et]
      have kT2 : ∀ p ∈ T, p ∈ (d3, tupO [.bytes wo.toArray tw, .bytes ad.toArray ta]) :: (d2, tupO [.bytes wo.toArray tw, .bytes ad.toArray ta]) :: T := fun p hp => .tail _ (.tail _ hp)
      have hv2 := (hv.mono kT2).push (a := d3) (t := tk) hm (tupK_bytes (.head _))
      have hs2 : Stk ((d3, tupO [.bytes wo.toArray tw, .bytes ad.toArray ta]) :: (d2, tupO [.bytes wo.toArray tw, .bytes ad.toArray ta]) :: T) (xs ++ [(wo, ad)]) (us ++ [.ref d2]) := (hs.push (tp := d2) (.head _)).mono fun p hp => .tail _ hp
      have S := S.subS (l' := (kn, ok) :: (d3, tupO [.bytes wo.toArray tw, .bytes ad.toArray ta]) :: (d2, tupO [.bytes wo.toArray tw, .bytes ad.toArray ta]) :: (x, instObj 180 dx) :: (dx, od) :: (r, W.listOf (us ++ [Value.ref d2]).toArray kk) :: l1) (by k_extra "my sub")
      refine r_hset (gl := fun o => (kn, o) :: (d3, tupO [.bytes wo.toArray tw, .bytes ad.toArray ta]) :: (d2, tupO [.bytes wo.toArray tw, .bytes ad.toArray ta]) :: (x, instObj 180 dx) :: (dx, od) :: (r, W.listOf (us ++ [Value.ref d2]).toArray kk) :: l1) C' (up1 hn rfl) S .head hd
        (hv.keys.mono fun p hp => .tail _ (.tail _ (.tail _ (.tail _ (.tail _ (.tail _ (hT p hp))))))) (tupK_bytes (.tail _ (.head _))) (by rw [hv.1]; omega) ?_
      clear S
      intro h t ok2 hd2 S

      obtain ⟨ka, tk2, hka⟩ := hv2.found hd2.nodup (wo := wo) (ad := ad) (by simp)
      k_extra "my go"
      rename St _ _ _ _ _ => S
      rename_i d0 _ _
      have mT : ∀ p ∈ (d3, tupO [.bytes wo.toArray tw, .bytes ad.toArray ta]) :: (d2, tupO [.bytes wo.toArray tw, .bytes ad.toArray ta]) :: T, p ∈ (d0, tupO [.bytes wo.toArray tw, .bytes ad.toArray ta]) :: (kn, ok2) :: (d3, tupO [.bytes wo.toArray tw, .bytes ad.toArray ta]) :: (d2, tupO [.bytes wo.toArray tw, .bytes ad.toArray ta]) :: (x, instObj 180 dx) :: (dx, od) :: (r, W.listOf (us ++ [Value.ref d2]).toArray kk) :: l1 := fun p hp => by
        rcases List.mem_cons.mp hp with rfl | hp
        · exact .tail _ (.tail _ (.head _))
        · rcases List.mem_cons.mp hp with rfl | hp
          · exact .tail _ (.tail _ (.tail _ (.head _)))
          · exact .tail _ (.tail _ (.tail _ (.tail _ (.tail _ (.tail _ (.tail _ (hT p hp)))))))
      refine r_hget (v := .int (((xs ++ [(wo, ad)]).idxOf (wo, ad) : Int) + 1) tk2) (ka := ka) C' (up1 hn rfl) S (by k_mem) hd2 (hv2.keys.mono mT) (tupK_bytes (.head _)) hka ?_ rfl
      intro t
      k_extra "my go"
      rename St _ _ _ _ _ => S
      have S := S.subS (l' := (d3, tupO [.bytes wo.toArray tw, .bytes ad.toArray ta]) :: (d2, tupO [.bytes wo.toArray tw, .bytes ad.toArray ta]) :: (x, instObj 180 dx) :: (dx, od) :: (r, W.listOf (us ++ [Value.ref d2]).toArray kk) :: (kn, ok2) :: l1) (by k_extra "my sub")
      rw [← hl0] at S
      have pm : (((x, instObj 180 dx) :: (dx, od) :: (r, W.listOf (us ++ [Value.ref d2]).toArray kk) :: (kn, ok2) :: l) ++ ((d3, tupO [.bytes wo.toArray tw, .bytes ad.toArray ta]) :: (d2, tupO [.bytes wo.toArray tw, .bytes ad.toArray ta]) :: T)).Perm
        ((d3, tupO [.bytes wo.toArray tw, .bytes ad.toArray ta]) :: (d2, tupO [.bytes wo.toArray tw, .bytes ad.toArray ta]) :: (((x, instObj 180 dx) :: (dx, od) :: (r, W.listOf (us ++ [Value.ref d2]).toArray kk) :: (kn, ok2) :: l) ++ T)) :=
        List.perm_middle.trans (List.perm_middle.cons _)
      refine' hR _ _ kk ok2 _ _ ((d3, tupO [.bytes wo.toArray tw, .bytes ad.toArray ta]) :: (d2, tupO [.bytes wo.toArray tw, .bytes ad.toArray ta]) :: T) (xs ++ [(wo, ad)]) tk2 _ (((List.Sublist.refl _).cons _).cons _) ?e1 ?e2 hd2 hs2 hv2 (S.perm pm)
      case e1 => rw [if_neg (by simp only [not_or]; exact ⟨hm, by omega⟩)]
      case e2 => rw [if_pos (by simp)]
/-- what a number leads to -/
noncomputable def wordOf (xs : List (List UInt8 × List UInt8)) (i : Int) : List UInt8 := if 1 ≤ i ∧ i ≤ xs.length then ((xs[(i - 1).toNat]?.map (·.1)).getD []) else []
noncomputable def addrOf (xs : List (List UInt8 × List UInt8)) (i : Int) : List UInt8 := if 1 ≤ i ∧ i ≤ xs.length then ((xs[(i - 1).toNat]?.map (·.2)).getD []) else []
theorem lword_code {w : World} {A : Around} {n : Nat} {g h : Heap} {env : Env} {L x dx r kn : Addr} {od : Obj} {kr : Nat} {us : List Value} {xs : List (List UInt8 × List UInt8)} {m : Str → Option Value} {l T : List (Addr × Obj)} {s₀ : Shared} {t : Nat} {i : Int} {ti : Tok} {R : Result → Shared → Prop}
    (C : Fx (Mine.hd.heap_39 w.params) A n g env L) (hn : n ≤ 50) (S : St g L h m ((x, instObj 180 dx) :: (dx, od) :: (r, W.listOf us.toArray kr) :: l)) (ho : LRec od r kn) (hs : Stk T xs us) (hT : ∀ p ∈ T, p ∈ l) (hz : xs.length ≤ 100)
    (hR : ∀ h' t' tk, St g L h' m ((x, instObj 180 dx) :: (dx, od) :: (r, W.listOf us.toArray kr) :: l) → R (.ok (.ret (.bytes (wordOf xs i).toArray tk))) (sg s₀ h' t')) :
    codeAny (model PySem.Challenge.rw_og0239_01.row.prog w) A (.call (.ref 177) ⟨[.ref x, .int i ti], []⟩) R (sg s₀ h t) := by
  revert C; k_fill; intro C
  obtain ⟨ho, hsys⟩ := ho
  have hl := hs.length
  refine' enter [Str.ofString "self", Str.ofString "number"] ?C ?S ?k6 ?k7 ?kn ?k9 ?kB ?kD ?_ ?c2 ?c3 ?c4 ?c5
  k_extra "my entered"
  rename_i g' L' h' t' env' _ he st C' S' _ _
  k_extra "my go"
  · rename St _ _ _ _ _ => S
    rename i ≤ _ => c2
    rename 1 ≤ i => c1
    obtain ⟨p, hp⟩ : ∃ p, xs[(i - 1).toNat]? = some p := ⟨xs[(i - 1).toNat]'(by omega), by simp⟩
    obtain ⟨v, hv, a, vs, rfl, hm, hpr⟩ := Stk.right hs _ hp
    obtain ⟨t1, t2, rfl⟩ : ∃ ti tj, vs = [.bytes p.1.toArray ti, .bytes p.2.toArray tj] := by
      cases hpr with | cons a r => cases r with | cons b r => cases r; obtain ⟨_, rfl⟩ := a; obtain ⟨_, rfl⟩ := b; exact ⟨_, _, rfl⟩
    refine r_itemL (v := .ref a) S (by k_mem) (by omega) (by omega) hv ?_ rfl
    k_extra "my go"
    refine kba_turn (value' := PySem.Expr.Name (PySem.Str.ofString "_") ⟨0, 0, 0, 0⟩) (fun _ => rfl) ?_
    refine r_itemT (v := .bytes p.1.toArray t1) S (.tail _ (.tail _ (.tail _ (hT _ hm)))) (by decide) (by decide) rfl ?_ rfl
    k_extra "my go"
    rename St _ _ _ _ _ => S
    have e : wordOf xs i = p.1 := by unfold wordOf; rw [if_pos ⟨c1, by omega⟩, hp]; rfl
    exact e ▸ hR _ _ _ S
  · rename St _ _ _ _ _ => S
    rename ¬ (i ≤ _) => c2
    have e : wordOf xs i = [] := by simp [wordOf, show ¬ i ≤ (xs.length : Int) by omega]
    exact hR _ _ _ S |> fun q => by rw [e] at q; exact q
  · rename St _ _ _ _ _ => S
    rename ¬ (1 ≤ i) => c1
    have e : wordOf xs i = [] := by simp [wordOf, c1]
    exact hR _ _ _ S |> fun q => by rw [e] at q; exact q
theorem laddr_code {w : World} {A : Around} {n : Nat} {g h : Heap} {env : Env} {L x dx r kn : Addr} {od : Obj} {kr : Nat} {us : List Value} {xs : List (List UInt8 × List UInt8)} {m : Str → Option Value} {l T : List (Addr × Obj)} {s₀ : Shared} {t : Nat} {i : Int} {ti : Tok} {R : Result → Shared → Prop}
    (C : Fx (Mine.hd.heap_39 w.params) A n g env L) (hn : n ≤ 50) (S : St g L h m ((x, instObj 180 dx) :: (dx, od) :: (r, W.listOf us.toArray kr) :: l)) (ho : LRec od r kn) (hs : Stk T xs us) (hT : ∀ p ∈ T, p ∈ l) (hz : xs.length ≤ 100)
    (hR : ∀ h' t' tk, St g L h' m ((x, instObj 180 dx) :: (dx, od) :: (r, W.listOf us.toArray kr) :: l) → R (.ok (.ret (.bytes (addrOf xs i).toArray tk))) (sg s₀ h' t')) :
    codeAny (model PySem.Challenge.rw_og0239_01.row.prog w) A (.call (.ref 170) ⟨[.ref x, .int i ti], []⟩) R (sg s₀ h t) := by
  revert C; k_fill; intro C
  obtain ⟨ho, hsys⟩ := ho
  have hl := hs.length
  refine' enter [Str.ofString "self", Str.ofString "number"] ?C ?S ?k6 ?k7 ?kn ?k9 ?kB ?kD ?_ ?c2 ?c3 ?c4 ?c5
  k_extra "my entered"
  rename_i g' L' h' t' env' _ he st C' S' _ _
  k_extra "my go"
  · rename St _ _ _ _ _ => S
    rename i ≤ _ => c2
    rename 1 ≤ i => c1
    obtain ⟨p, hp⟩ : ∃ p, xs[(i - 1).toNat]? = some p := ⟨xs[(i - 1).toNat]'(by omega), by simp⟩
    obtain ⟨v, hv, a, vs, rfl, hm, hpr⟩ := Stk.right hs _ hp
    obtain ⟨t1, t2, rfl⟩ : ∃ ti tj, vs = [.bytes p.1.toArray ti, .bytes p.2.toArray tj] := by
      cases hpr with | cons a r => cases r with | cons b r => cases r; obtain ⟨_, rfl⟩ := a; obtain ⟨_, rfl⟩ := b; exact ⟨_, _, rfl⟩
    refine r_itemL (v := .ref a) S (by k_mem) (by omega) (by omega) hv ?_ rfl
    k_extra "my go"
    refine kba_turn (value' := PySem.Expr.Name (PySem.Str.ofString "_") ⟨0, 0, 0, 0⟩) (fun _ => rfl) ?_
    refine r_itemT (v := .bytes p.2.toArray t2) S (.tail _ (.tail _ (.tail _ (hT _ hm)))) (by decide) (by decide) rfl ?_ rfl
    k_extra "my go"
    rename St _ _ _ _ _ => S
    have e : addrOf xs i = p.2 := by unfold addrOf; rw [if_pos ⟨c1, by omega⟩, hp]; rfl
    exact e ▸ hR _ _ _ S
  · rename St _ _ _ _ _ => S
    rename ¬ (i ≤ _) => c2
    have e : addrOf xs i = [] := by simp [addrOf, show ¬ i ≤ (xs.length : Int) by omega]
    exact hR _ _ _ S |> fun q => by rw [e] at q; exact q
  · rename St _ _ _ _ _ => S
    rename ¬ (1 ≤ i) => c1
    have e : addrOf xs i = [] := by simp [addrOf, c1]
    exact hR _ _ _ S |> fun q => by rw [e] at q; exact q

end
section
theorem lines_T3 : True := by
  k_with_none
  k_with "subscriptTail" => ((fail_if_success (with_reducible show wpAny _ _ (subscriptTail (PySem.Expr.Name _ _) _ _ _) _ _ _)); k_dflt (refine kba_turn (value' := PySem.Expr.Name (PySem.Str.ofString "_") ⟨0, 0, 0, 0⟩) (fun _ => rfl) ?_))
  k_with "my spot" => first | exact Spot.head | (refine' Spot.tail ?zspt; (case zspt => k_extra "my spot"))
  k_with "my swap" => ((try (rename St _ _ _ _ _ => so; clear so)))
  k_with "my subl" => first | exact List.Sublist.refl _ | (refine List.Sublist.cons_cons _ ?_; k_extra "my subl") | (refine List.Sublist.cons _ ?_; k_extra "my subl")
  k_with "my dec" => first | assumption | decide | omega | ((simp only [decide_eq_true_eq, decide_eq_false_iff_not, beq_iff_eq, bne_iff_ne, ne_eq, Bool.not_eq_true, Bool.not_eq_false, Bool.not_eq_true', Bool.not_eq_false', beq_eq_false_iff_ne, bne_eq_false_iff_eq]); omega) | (simp_all; done)
  k_with "eval Name" => (k_dflt (first
    | (refine' r_local ?zhe ?zS ?zv ?zk ?zx ?zd ?_; (case zhe => assumption); (case zS => assumption); (case zv => first | exact rfl | assumption); (case zk => exact rfl); (case zx => exact rfl); (case zd => decide); k_whole)
    | (refine' r_global ?zhe ?zC ?zS ?ze ?zk ?zx ?zd ?_; (case zhe => assumption); (case zC => assumption); (case zS => assumption); (case ze => k_is); (case zk => exact rfl); (case zx => exact rfl); (case zd => decide); k_whole)
    | (refine' r_builtin ?zhe ?zC ?zS ?ze ?zv ?zn ?zk ?zx ?zd ?_; (case zhe => assumption); (case zC => assumption); (case zS => assumption); (case ze => k_is); (case zv => boot_by_name); (case zn => decide); (case zk => exact rfl); (case zx => exact rfl); (case zd => decide); k_whole)))
  k_with "storeName" => (k_dflt (refine' r_store ?zhe ?zS ?zk ?zx ?_; (case zhe => assumption); (case zS => assumption); (case zk => exact rfl); (case zx => exact rfl); k_whole); k_extra "my swap"; intro _ _ _)
  k_with "eval Constant int" => (refine r_cint ?_; intro _ _)
  k_with "eval Constant str" => (refine r_cstr ?_; intro _ _)
  k_with "eval Constant bytes" => (refine r_cbytes ?_; intro _ _)
  k_with "eval Constant bool" => (refine r_cbool ?_)
  k_with "eval Constant none" => (refine r_cnone ?_)
  k_with "binaryOp Add int int" => (refine r_add ?_; intro _ _)
  k_with "binaryOp Sub int int" => (refine r_sub ?_; intro _ _)
  k_with "binaryOp Mult int int" => (refine r_mul ?za ?_; (case za => mul_fits); intro _ _)
  k_with "binaryOp Mod int int" => (refine r_mod ?za ?_; (case za => first | decide | omega | assumption); intro _ _)
  k_with "binaryOp FloorDiv int int" => (refine r_fdiv ?za ?zb ?_; (case za => first | decide | omega); (case zb => first | decide | omega); intro _ _)
  k_with "compareOp Eq int int" => (refine r_eq ?_)
  k_with "compareOp NotEq int int" => (refine r_ne ?_)
  k_with "compareOp Lt int int" => (refine r_lt ?_)
  k_with "compareOp LtE int int" => (refine r_le ?_)
  k_with "compareOp Gt int int" => (refine r_gt ?_)
  k_with "compareOp GtE int int" => (refine r_ge ?_)
  k_with "unaryOp USub int" => (refine r_neg ?_; intro _ _)
  k_with "newTuple" => (refine' r_tuple ?zS ?zz ?_; (case zS => assumption); (case zz => exact Nat.le_of_ble_eq_true rfl); k_extra "my swap"; intro _ _ _ _)
  k_with "newList" => (refine' r_list ?zS ?zz ?_; (case zS => assumption); (case zz => exact Nat.le_of_ble_eq_true rfl); k_extra "my swap"; intro _ _ _ _)
  k_with "ite" => first | (refine PySem.W.ite_pos ?za ?_; (case za => k_extra "my dec")) | (refine PySem.W.ite_neg ?za ?_; (case za => k_extra "my dec")) | (refine split_dec ?_ ?_ <;> intro _) | (refine split_bool ?_ ?_ <;> intro _)
  k_with "my entered" => ((case C => assumption); (case S => assumption); (case k6 => k_is); (case k7 => k_is); (case kn => first | (refine up1 (by assumption) ?_; exact rfl) | omega); (case k9 => first | exact BindsTo.of_eq rfl | exact binds_K (Fx.inn (by assumption) (by assumption)) rfl (by k_is) rfl rfl rfl); (case kB => exact locs rfl); (case kD => decide); (case c2 => exact rfl); (case c3 => exact rfl); (case c4 => exact rfl); (case c5 => decide); k_extra "my swap"; intro _ _ _ _ _ _ _ _ _ _; (try dsimp only); k_extra "my fold")
  k_with "execs cons" => (refine wpAny_execs_cons ?_; (try k_extra "my fold"))
  k_with "execs nil" => refine wpAny_execs_nil ?_
  k_with "exec If" => refine wpAny_If ?_
  k_with "isTrue Compare" => refine wpAny_isTrue_Compare1 ?_
  k_with "exec Return some" => refine wpAny_Return_some ?_
  k_with "eval BinOp" => refine wpAny_BinOp ?_
  k_with "truthy bool" => refine wpAny_truthy_bool ?_
  k_with "getMethod ref" => (k_dflt (refine' r_lmeth ?zS ?zm ?zs ?zt ?_; (case zS => assumption); (case zm => k_mem); (case zs => first | exact PySem.F.slot_list_append | exact PySem.F.slot_list_pop | exact PySem.F.slot_list_index); (case zt => first | exact PySem.F.type_list_append | exact PySem.F.type_list_pop | exact PySem.F.type_list_index); k_whole))
  k_with "LeaveS" => ((try dsimp only); (refine' leaveS ?zS ?_; (case zS => assumption)); k_extra "my swap"; intro _; (try dsimp only [flowV]))
  k_with "exec Assign" => (k_dflt (first
    | (refine' r_assignN ?zhe ?zhs ?_; (case zhe => assumption); (case zhs => exact rfl); k_whole)
    | (refine' r_assignT ?zhe ?zhs ?zhw ?_; (case zhe => assumption); (case zhs => exact rfl); (case zhw => exact rfl); k_whole)
    | (refine' r_assignTS ?zhe ?zhs ?zhw ?_; (case zhe => assumption); (case zhs => exact rfl); (case zhw => exact rfl); k_whole)
    | (refine' plainObj_wpAny_Assign_Attribute ?_ ?zhs; (case zhs => exact rfl); k_whole)
    | (refine' wpAny_Assign_Subscript ?_ ?zhs; (case zhs => exact rfl); k_whole)))
  k_with "assign Tuple" => (k_dflt (refine' r_unpack ?zC ?zS ?zm ?zk1 ?zk2 ?_; (case zC => assumption); (case zS => assumption); (case zm => k_mem); (case zk1 => exact rfl); (case zk2 => exact rfl); k_whole); k_extra "my swap"; intro _ _; dsimp only [assignEach, List.map])
  k_with "assignInOrder" => first | refine assignInOrder_nil ?_ | refine assignInOrder_cons ?_
  k_with "assign Name" => refine assign_Name ?_
  k_with "unpackItems ref" => (k_dflt (refine' r_unpackItems ?zC ?zS ?zm ?zk1 ?_; (case zC => assumption); (case zS => assumption); (case zm => k_mem); (case zk1 => exact rfl); k_whole); k_extra "my swap"; intro _ _; dsimp only [List.reverse, List.reverseAux, List.map])
  k_with "bindName" => refine r_bindName ?_
  k_with "my sel" => first | exact Sel.head | (refine' Sel.tail ?zsel; (case zsel => k_extra "my sel"))
  k_with "my sub" => first
    | exact Sub.refl
    | (refine' Sub.take Sel.head ?zrest; (case zrest => k_extra "my sub"))
    | ((fail_if_success (refine' Sub.probe ?zpra ?zprm; (case zprm => k_mem))); refine' Sub.skip ?zrest; (case zrest => k_extra "my sub"))
    | (refine' Sub.take ?zsel ?zrest; (case zsel => k_extra "my sel"); (case zrest => k_extra "my sub"))
    | (refine' Sub.skip ?zrest; (case zrest => k_extra "my sub"))
  k_with "getAttr ref" => (k_dflt (refine' r_getR ?zS ?zX ?zh1 ?zh2 ?zho ?zhg ?zhh ?zha ?zhn ?zhl ?zhv ?_; (case zS => assumption); (case zX => assumption); (case zh1 => k_mem); (case zh2 => k_mem); (case zho => assumption); (case zhg => k_is); (case zhh => k_is); (case zha => k_is); (case zhn => k_is); (case zhl => exact rfl); (case zhv => exact rfl); k_whole); intro _)
  k_with "setAttr ref" => (k_dflt (refine' r_setR ?zS ?zX ?zh1 ?zU ?zho ?zhs ?zhp ?zht ?zhh ?zhz ?_; (case zS => assumption); (case zX => assumption); (case zh1 => k_mem); (case zU => k_extra "my spot"); (case zho => first | assumption | exact rec_nil); (case zhs => k_is); (case zhp => k_is); (case zht => k_is); (case zhh => k_is); (case zhz => exact Nat.le_of_ble_eq_true rfl); k_whole); k_extra "my swap"; intro _ _ _ _ _; (try (rename St _ _ _ _ _ => zzS; (try dsimp only at zzS); revert zzS; intro _)))
  k_with "getMethod ref" => (k_dflt (refine' r_methR ?zS ?zX ?zh1 ?zh2 ?zho ?zhg ?zhf ?zht ?zhl ?_; (case zS => assumption); (case zX => assumption); (case zh1 => k_mem); (case zh2 => k_mem); (case zho => assumption); (case zhg => k_is); (case zhf => k_is); (case zht => k_is); (case zhl => exact rfl); k_whole))
  k_with "call builtin:list.append" => (k_dflt (refine' r_appendL ?zS ?zU ?zz ?_; (case zS => assumption); (case zU => k_extra "my spot"); (case zz => omega); k_whole); k_extra "my swap"; intro _ _ _ _; (try (rename St _ _ _ _ _ => zzS; (try dsimp only at zzS); revert zzS; intro _)))
  k_with "exec Expr" => (k_dflt (refine' r_expr ?zhe ?zhi ?zhs ?_; (case zhe => assumption); (case zhi => exact rfl); (case zhs => exact rfl); k_whole))
  k_with "call builtin:len" => (k_dflt (refine' r_lenL ?zS ?zm ?zz ?_; (case zS => assumption); (case zm => k_mem); (case zz => (try simp only [List.length_append, List.length_cons, List.length_nil]); omega); k_whole); intro _ _)
  k_with "call builtin:list.pop" => (k_dflt ((with_reducible show wpAny _ _ (call (Value.builtin _) [Value.ref _, Value.int _ _]) _ _ _); refine' r_pop0L ?zS ?zU ?zne ?zz ?_; (case zS => assumption); (case zU => k_extra "my spot"); (case zne => simp; done); (case zz => (try simp only [List.length_append, List.length_cons, List.length_nil]); omega); k_whole); k_extra "my swap"; intro _ _ _ _ _; (try (rename St _ _ _ _ _ => zzS; (try dsimp only at zzS); revert zzS; intro _)))
  k_with "callWith ref" => (k_dflt (first
    | (refine' r_callWith ?zX ?zhk ?_; (case zX => exact Fx.X (by assumption)); (case zhk => k_is); k_whole)
    | (refine' r_callWith0 ?zC ?zS ?zhk ?_; (case zC => assumption); (case zS => assumption); (case zhk => k_is); k_whole)))
  k_with "And" => ((with_reducible show Frag.In _ _ ∧ _); k_dflt (refine' r_kin ?zC ?zS ?_; (case zC => assumption); (case zS => assumption)); try dsimp only [List.nil_append, List.cons_append])
  k_with "my swapD" => ((try (rename Deck _ _ _ _ _ => so; clear so)))
  k_with "call type:range" => (k_dflt (refine' r_rangeN ?zS ?zz ?_; (case zS => assumption); (case zz => omega); k_whole); k_extra "my swap"; intro _ _ _ _ _ _ _ _)
  k_with "subscriptTail" => (k_dflt (first
    | (refine' r_itemL ?zS ?zm ?za ?zb ?zx ?_ ?zhs; (case zS => assumption); (case zm => k_mem); (case za => decide); (case zb => decide); (case zx => exact rfl); (case zhs => exact rfl); k_whole)
    | (refine' r_itemT ?zS ?zm ?za ?zb ?zx ?_ ?zhs; (case zS => assumption); (case zm => k_mem); (case za => decide); (case zb => decide); (case zx => exact rfl); (case zhs => exact rfl); k_whole)
    | (refine' r_menuB ?zC ?zS ?zl ?zb ?za ?zc ?zd ?_ ?zhs; (case zC => assumption); (case zS => assumption); (case zl => k_is); (case zb => exact rfl); (case za => omega); (case zc => (simp only [List.length_cons, List.length_nil]); omega); (case zd => decide); (case zhs => exact rfl); k_whole; intro _ _)))
  k_with "binaryOp Add ref ref" => (k_dflt (refine' r_addL ?zS ?za ?zb ?zz ?_; (case zS => assumption); (case za => k_mem); (case zb => k_mem); (case zz => (try simp only [List.length_append, List.length_cons, List.length_nil]); omega); k_whole); k_extra "my swap"; intro _ _ _ _)
  k_with "call type:tuple" => (k_dflt (refine' r_tupleOf ?zS ?za ?zz ?_; (case zS => assumption); (case za => k_mem); (case zz => (try simp only [List.length_append, List.length_cons, List.length_nil]); omega); k_whole); k_extra "my swap"; intro _ _ _ _)
  k_with "my slice" => (k_dflt (refine' r_sliceL ?zS ?zm ?zpl ?zpu ?zhs ?zht ?zhz ?_; (case zS => assumption); (case zm => k_mem); (case zpl => first | exact .none | exact .int _ _); (case zpu => first | exact .none | exact .int _ _); (case zhs => exact rfl); (case zht => exact fun _ => rfl); (case zhz => (try simp only [List.length_append, List.length_cons, List.length_nil]); omega); k_whole); k_extra "my swap"; intro _ _ _ _)
  k_with "eval Dict nil nil" => (k_dflt (refine' r_newDict ?zC ?zS ?_; (case zC => assumption); (case zS => assumption); k_whole); k_extra "my swap"; intro _ _ _ _ _ _ _)
  k_with "my slice" => ((fail_if_success (with_reducible show wpAny _ _ (subscriptTail (PySem.Expr.Name _ _) _ _ _) _ _ _)); k_dflt (refine kba_turn (value' := PySem.Expr.Name (PySem.Str.ofString "_") ⟨0, 0, 0, 0⟩) (fun _ => rfl) ?_); k_extra "my slice")
  k_with "my stop" => first
    | (with_reducible show wpAny _ _ (subscriptTail _ _ (Value.ref _) (Value.ref _)) _ _ _)
    | (with_reducible show wpAny _ _ (setItem (Value.ref _) (Value.ref _) _) _ _ _)
    | (with_reducible show wpAny _ _ (call (Value.builtin "dict.pop") _) _ _ _)
    | (with_reducible show wpAny _ _ (call (Value.builtin "dict.get") _) _ _ _)
    | (with_reducible show wpAny _ _ (call (Value.builtin "list.index") _) _ _ _)
    | (with_reducible show wpAny _ _ (compareOp _ (Value.ref _) (Value.ref _)) _ _ _)
    | (with_reducible show wpAny _ _ (pyIter (Value.ref _)) _ _ _)
  k_with "my fold" => (refine foldQ ?_; intro _ _)
  k_with "my unfold" => first | ((rename ∀ (_ : Flow) (_ : Shared), _ → _ => hq; refine hq _ _ ?_; clear hq); (rename Flow → Shared → Prop => q; clear q); (try dsimp only)) | ((rename ∀ (_ : Value) (_ : Shared), _ → _ => hq; refine hq _ _ ?_; clear hq); (rename Value → Shared → Prop => q; clear q); (try dsimp only))
  k_with "my step" => first
    | ((with_reducible show wpAny _ _ (subscriptTail _ _ (Value.ref _) (Value.ref (Array.size _))) _ _ _); k_extra "my slice")
    | ((with_reducible show wpAny _ _ (exec _ _) (NextIs _) _ _); k_extra "my fold")
    | ((fail_if_success k_extra "my stop"); first | walk1 | (dsimp only; walk1) | k_extra "my unfold")
  k_with "my go" => repeat' k_extra "my step"
  k_with "my goIf" => repeat' ((fail_if_success (with_reducible show wpAny _ _ (exec (Stmt.If _ _ _ _) _) _ _ _)); k_extra "my step")
  k_with "my goFor" => repeat' ((fail_if_success (with_reducible show wpAny _ _ (exec (Stmt.For _ _ _ _ _) _) _ _ _)); k_extra "my step")
  k_with "binaryOp LShift int int" => (refine r_shl ?za ?zb ?zc ?_; (case za => omega); (case zb => omega); (case zc => omega); intro _ _)
  k_with "binaryOp BitOr int int" => (refine r_or ?_; intro _ _)
  trivial
theorem rgbnum_code {w : World} {A : Around} {n : Nat} {g h : Heap} {env : Env} {L : Addr} {m : Str → Option Value} {l : List (Addr × Obj)} {s₀ : Shared} {t : Nat} {a b c : Int} {ta tb tc : Tok} {R : Result → Shared → Prop}
    (C : Fx (Mine.hd.heap_39 w.params) A n g env L) (hn : n ≤ 60) (S : St g L h m l) (ha : 0 ≤ a) (hb : 0 ≤ b) (ha' : a < 256) (hb' : b < 256)
    (hR : ∀ h' t' tk, St g L h' m l → R (.ok (.ret (.int (Builtin.bitOr (Builtin.bitOr (a * 2 ^ 16) (b * 2 ^ 8)) c) tk))) (sg s₀ h' t')) :
    codeAny (model PySem.Challenge.rw_og0239_01.row.prog w) A (.call (.ref 29) ⟨[.int a ta, .int b tb, .int c tc], []⟩) R (sg s₀ h t) := by
  revert C; k_fill; intro C
  refine' enter [Str.ofString "red", Str.ofString "green", Str.ofString "blue"] ?C ?S ?k6 ?k7 ?kn ?k9 ?kB ?kD ?_ ?c2 ?c3 ?c4 ?c5
  k_extra "my entered"
  rename_i g' L' h' t' env' _ he st C' S' _ _
  k_extra "my go"
  rename St _ _ _ _ _ => S
  exact hR _ _ _ S
theorem lines_T3_0 : True := by
  k_with "subscriptTail" => (k_dflt (refine' r_menuI ?zC ?zS ?zl ?zb ?za ?zc ?zd ?_ ?zhs; (case zC => assumption); (case zS => assumption); (case zl => k_is); (case zb => exact rfl); (case za => ((try simp (disch := decide) only [Int.fdiv_eq_ediv_of_nonneg, Int.fmod_eq_emod_of_nonneg]); omega)); (case zc => ((simp (disch := decide) only [Int.fdiv_eq_ediv_of_nonneg, Int.fmod_eq_emod_of_nonneg, List.length_cons, List.length_nil]); omega)); (case zd => decide); (case zhs => exact rfl); k_whole; intro _))
  trivial
theorem lev_of (k : Int) : (List.map intV [.int 0 0, .int 95 0, .int 135 0, .int 175 0, .int 215 0, .int 255 0]).getD k.toNat 0 = lev k := rfl
set_option pp.maxSteps 20000 in
theorem pal_code {w : World} {A : Around} {n : Nat} {g h : Heap} {env : Env} {L : Addr} {m : Str → Option Value} {l : List (Addr × Obj)} {s₀ : Shared} {t : Nat} {i : Int} {ti : Tok} {R : Result → Shared → Prop}
    (C : Fx (Mine.hd.heap_39 w.params) A n g env L) (hn : n ≤ 55) (S : St g L h m l) (h0 : 16 ≤ i) (h1 : i < 256)
    (hR : ∀ h' t' tk v, v = palI i → St g L h' m l → R (.ok (.ret (.int v tk))) (sg s₀ h' t')) :
    codeAny (model PySem.Challenge.rw_og0239_01.row.prog w) A (.call (.ref 36) ⟨[.int i ti], []⟩) R (sg s₀ h t) := by
  revert C; k_fill; intro C
  refine' enter [Str.ofString "index"] ?C ?S ?k6 ?k7 ?kn ?k9 ?kB ?kD ?_ ?c2 ?c3 ?c4 ?c5
  k_extra "my entered"
  rename_i g' L' h' t' env' _ he st C' S' _ _
  k_extra "my go"
  · rename St _ _ _ _ _ => S
    refine r_call (rgbnum_code C' (up1 hn rfl) S (lev_bd ((i - 16).fdiv 36)).1 (lev_bd (((i - 16).fdiv 6).fmod 6)).1 (lev_bd _).2 (lev_bd _).2 ?_)
    clear S
    intro h t tk S
    dsimp only [CallBack]
    k_extra "my go"
    rename St _ _ _ _ _ => S
    refine hR _ _ tk _ ?_ S
    unfold palI
    rw [if_neg (by omega)]
    exact rgb_eq _ _ _ (lev_bd _).1 (lev_bd _).2 (lev_bd _).1 (lev_bd _).2
  · rename St _ _ _ _ _ => S
    refine r_call (rgbnum_code C' (up1 hn rfl) S (by omega) (by omega) (by omega) (by omega) ?_)
    clear S
    intro h t tk S
    dsimp only [CallBack]
    k_extra "my go"
    rename St _ _ _ _ _ => S
    refine hR _ _ tk _ ?_ S
    unfold palI
    rw [if_pos (by omega), rgb_eq _ _ _ (by omega) (by omega) (by omega) (by omega)]
    omega

end
section
theorem lines_T4 : True := by
  k_with_none
  k_with "subscriptTail" => ((fail_if_success (with_reducible show wpAny _ _ (subscriptTail (PySem.Expr.Name _ _) _ _ _) _ _ _)); k_dflt (refine kba_turn (value' := PySem.Expr.Name (PySem.Str.ofString "_") ⟨0, 0, 0, 0⟩) (fun _ => rfl) ?_))
  k_with "my spot" => first | exact Spot.head | (refine' Spot.tail ?zspt; (case zspt => k_extra "my spot"))
  k_with "my swap" => ((try (rename St _ _ _ _ _ => so; clear so)))
  k_with "my subl" => first | exact List.Sublist.refl _ | (refine List.Sublist.cons_cons _ ?_; k_extra "my subl") | (refine List.Sublist.cons _ ?_; k_extra "my subl")
  k_with "my dec" => first | assumption | decide | omega | ((simp only [decide_eq_true_eq, decide_eq_false_iff_not, beq_iff_eq, bne_iff_ne, ne_eq, Bool.not_eq_true, Bool.not_eq_false, Bool.not_eq_true', Bool.not_eq_false', beq_eq_false_iff_ne, bne_eq_false_iff_eq]); omega) | (simp_all; done)
  k_with "eval Name" => (k_dflt (first
    | (refine' r_local ?zhe ?zS ?zv ?zk ?zx ?zd ?_; (case zhe => assumption); (case zS => assumption); (case zv => first | exact rfl | assumption); (case zk => exact rfl); (case zx => exact rfl); (case zd => decide); k_whole)
    | (refine' r_global ?zhe ?zC ?zS ?ze ?zk ?zx ?zd ?_; (case zhe => assumption); (case zC => assumption); (case zS => assumption); (case ze => k_is); (case zk => exact rfl); (case zx => exact rfl); (case zd => decide); k_whole)
    | (refine' r_builtin ?zhe ?zC ?zS ?ze ?zv ?zn ?zk ?zx ?zd ?_; (case zhe => assumption); (case zC => assumption); (case zS => assumption); (case ze => k_is); (case zv => boot_by_name); (case zn => decide); (case zk => exact rfl); (case zx => exact rfl); (case zd => decide); k_whole)))
  k_with "storeName" => (k_dflt (refine' r_store ?zhe ?zS ?zk ?zx ?_; (case zhe => assumption); (case zS => assumption); (case zk => exact rfl); (case zx => exact rfl); k_whole); k_extra "my swap"; intro _ _ _)
  k_with "eval Constant int" => (refine r_cint ?_; intro _ _)
  k_with "eval Constant str" => (refine r_cstr ?_; intro _ _)
  k_with "eval Constant bytes" => (refine r_cbytes ?_; intro _ _)
  k_with "eval Constant bool" => (refine r_cbool ?_)
  k_with "eval Constant none" => (refine r_cnone ?_)
  k_with "binaryOp Add int int" => (refine r_add ?_; intro _ _)
  k_with "binaryOp Sub int int" => (refine r_sub ?_; intro _ _)
  k_with "binaryOp Mult int int" => (refine r_mul ?za ?_; (case za => mul_fits); intro _ _)
  k_with "binaryOp Mod int int" => (refine r_mod ?za ?_; (case za => first | decide | omega | assumption); intro _ _)
  k_with "binaryOp FloorDiv int int" => (refine r_fdiv ?za ?zb ?_; (case za => first | decide | omega); (case zb => first | decide | omega); intro _ _)
  k_with "compareOp Eq int int" => (refine r_eq ?_)
  k_with "compareOp NotEq int int" => (refine r_ne ?_)
  k_with "compareOp Lt int int" => (refine r_lt ?_)
  k_with "compareOp LtE int int" => (refine r_le ?_)
  k_with "compareOp Gt int int" => (refine r_gt ?_)
  k_with "compareOp GtE int int" => (refine r_ge ?_)
  k_with "unaryOp USub int" => (refine r_neg ?_; intro _ _)
  k_with "newTuple" => (refine' r_tuple ?zS ?zz ?_; (case zS => assumption); (case zz => exact Nat.le_of_ble_eq_true rfl); k_extra "my swap"; intro _ _ _ _)
  k_with "newList" => (refine' r_list ?zS ?zz ?_; (case zS => assumption); (case zz => exact Nat.le_of_ble_eq_true rfl); k_extra "my swap"; intro _ _ _ _)
  k_with "ite" => first | (refine PySem.W.ite_pos ?za ?_; (case za => k_extra "my dec")) | (refine PySem.W.ite_neg ?za ?_; (case za => k_extra "my dec")) | (refine split_dec ?_ ?_ <;> intro _) | (refine split_bool ?_ ?_ <;> intro _)
  k_with "my entered" => ((case C => assumption); (case S => assumption); (case k6 => k_is); (case k7 => k_is); (case kn => first | (refine up1 (by assumption) ?_; exact rfl) | omega); (case k9 => first | exact BindsTo.of_eq rfl | exact binds_K (Fx.inn (by assumption) (by assumption)) rfl (by k_is) rfl rfl rfl); (case kB => exact locs rfl); (case kD => decide); (case c2 => exact rfl); (case c3 => exact rfl); (case c4 => exact rfl); (case c5 => decide); k_extra "my swap"; intro _ _ _ _ _ _ _ _ _ _; (try dsimp only); k_extra "my fold")
  k_with "execs cons" => (refine wpAny_execs_cons ?_; (try k_extra "my fold"))
  k_with "execs nil" => refine wpAny_execs_nil ?_
  k_with "exec If" => refine wpAny_If ?_
  k_with "isTrue Compare" => refine wpAny_isTrue_Compare1 ?_
  k_with "exec Return some" => refine wpAny_Return_some ?_
  k_with "eval BinOp" => refine wpAny_BinOp ?_
  k_with "truthy bool" => refine wpAny_truthy_bool ?_
  k_with "getMethod ref" => (k_dflt (refine' r_lmeth ?zS ?zm ?zs ?zt ?_; (case zS => assumption); (case zm => k_mem); (case zs => first | exact PySem.F.slot_list_append | exact PySem.F.slot_list_pop | exact PySem.F.slot_list_index); (case zt => first | exact PySem.F.type_list_append | exact PySem.F.type_list_pop | exact PySem.F.type_list_index); k_whole))
  k_with "LeaveS" => ((try dsimp only); (refine' leaveS ?zS ?_; (case zS => assumption)); k_extra "my swap"; intro _; (try dsimp only [flowV]))
  k_with "exec Assign" => (k_dflt (first
    | (refine' r_assignN ?zhe ?zhs ?_; (case zhe => assumption); (case zhs => exact rfl); k_whole)
    | (refine' r_assignT ?zhe ?zhs ?zhw ?_; (case zhe => assumption); (case zhs => exact rfl); (case zhw => exact rfl); k_whole)
    | (refine' r_assignTS ?zhe ?zhs ?zhw ?_; (case zhe => assumption); (case zhs => exact rfl); (case zhw => exact rfl); k_whole)
    | (refine' plainObj_wpAny_Assign_Attribute ?_ ?zhs; (case zhs => exact rfl); k_whole)
    | (refine' wpAny_Assign_Subscript ?_ ?zhs; (case zhs => exact rfl); k_whole)))
  k_with "assign Tuple" => (k_dflt (refine' r_unpack ?zC ?zS ?zm ?zk1 ?zk2 ?_; (case zC => assumption); (case zS => assumption); (case zm => k_mem); (case zk1 => exact rfl); (case zk2 => exact rfl); k_whole); k_extra "my swap"; intro _ _; dsimp only [assignEach, List.map])
  k_with "assignInOrder" => first | refine assignInOrder_nil ?_ | refine assignInOrder_cons ?_
  k_with "assign Name" => refine assign_Name ?_
  k_with "unpackItems ref" => (k_dflt (refine' r_unpackItems ?zC ?zS ?zm ?zk1 ?_; (case zC => assumption); (case zS => assumption); (case zm => k_mem); (case zk1 => exact rfl); k_whole); k_extra "my swap"; intro _ _; dsimp only [List.reverse, List.reverseAux, List.map])
  k_with "bindName" => refine r_bindName ?_
  k_with "my sel" => first | exact Sel.head | (refine' Sel.tail ?zsel; (case zsel => k_extra "my sel"))
  k_with "my sub" => first
    | exact Sub.refl
    | (refine' Sub.take Sel.head ?zrest; (case zrest => k_extra "my sub"))
    | ((fail_if_success (refine' Sub.probe ?zpra ?zprm; (case zprm => k_mem))); refine' Sub.skip ?zrest; (case zrest => k_extra "my sub"))
    | (refine' Sub.take ?zsel ?zrest; (case zsel => k_extra "my sel"); (case zrest => k_extra "my sub"))
    | (refine' Sub.skip ?zrest; (case zrest => k_extra "my sub"))
  k_with "getAttr ref" => (k_dflt (refine' r_getR ?zS ?zX ?zh1 ?zh2 ?zho ?zhg ?zhh ?zha ?zhn ?zhl ?zhv ?_; (case zS => assumption); (case zX => assumption); (case zh1 => k_mem); (case zh2 => k_mem); (case zho => assumption); (case zhg => k_is); (case zhh => k_is); (case zha => k_is); (case zhn => k_is); (case zhl => exact rfl); (case zhv => exact rfl); k_whole); intro _)
  k_with "setAttr ref" => (k_dflt (refine' r_setR ?zS ?zX ?zh1 ?zU ?zho ?zhs ?zhp ?zht ?zhh ?zhz ?_; (case zS => assumption); (case zX => assumption); (case zh1 => k_mem); (case zU => k_extra "my spot"); (case zho => first | assumption | exact rec_nil); (case zhs => k_is); (case zhp => k_is); (case zht => k_is); (case zhh => k_is); (case zhz => exact Nat.le_of_ble_eq_true rfl); k_whole); k_extra "my swap"; intro _ _ _ _ _; (try (rename St _ _ _ _ _ => zzS; (try dsimp only at zzS); revert zzS; intro _)))
  k_with "getMethod ref" => (k_dflt (refine' r_methR ?zS ?zX ?zh1 ?zh2 ?zho ?zhg ?zhf ?zht ?zhl ?_; (case zS => assumption); (case zX => assumption); (case zh1 => k_mem); (case zh2 => k_mem); (case zho => assumption); (case zhg => k_is); (case zhf => k_is); (case zht => k_is); (case zhl => exact rfl); k_whole))
  k_with "call builtin:list.append" => (k_dflt (refine' r_appendL ?zS ?zU ?zz ?_; (case zS => assumption); (case zU => k_extra "my spot"); (case zz => omega); k_whole); k_extra "my swap"; intro _ _ _ _; (try (rename St _ _ _ _ _ => zzS; (try dsimp only at zzS); revert zzS; intro _)))
  k_with "exec Expr" => (k_dflt (refine' r_expr ?zhe ?zhi ?zhs ?_; (case zhe => assumption); (case zhi => exact rfl); (case zhs => exact rfl); k_whole))
  k_with "call builtin:len" => (k_dflt (refine' r_lenL ?zS ?zm ?zz ?_; (case zS => assumption); (case zm => k_mem); (case zz => (try simp only [List.length_append, List.length_cons, List.length_nil]); omega); k_whole); intro _ _)
  k_with "call builtin:list.pop" => (k_dflt ((with_reducible show wpAny _ _ (call (Value.builtin _) [Value.ref _, Value.int _ _]) _ _ _); refine' r_pop0L ?zS ?zU ?zne ?zz ?_; (case zS => assumption); (case zU => k_extra "my spot"); (case zne => simp; done); (case zz => (try simp only [List.length_append, List.length_cons, List.length_nil]); omega); k_whole); k_extra "my swap"; intro _ _ _ _ _; (try (rename St _ _ _ _ _ => zzS; (try dsimp only at zzS); revert zzS; intro _)))
  k_with "callWith ref" => (k_dflt (first
    | (refine' r_callWith ?zX ?zhk ?_; (case zX => exact Fx.X (by assumption)); (case zhk => k_is); k_whole)
    | (refine' r_callWith0 ?zC ?zS ?zhk ?_; (case zC => assumption); (case zS => assumption); (case zhk => k_is); k_whole)))
  k_with "And" => ((with_reducible show Frag.In _ _ ∧ _); k_dflt (refine' r_kin ?zC ?zS ?_; (case zC => assumption); (case zS => assumption)); try dsimp only [List.nil_append, List.cons_append])
  k_with "my swapD" => ((try (rename Deck _ _ _ _ _ => so; clear so)))
  k_with "call type:range" => (k_dflt (refine' r_rangeN ?zS ?zz ?_; (case zS => assumption); (case zz => omega); k_whole); k_extra "my swap"; intro _ _ _ _ _ _ _ _)
  k_with "subscriptTail" => (k_dflt (first
    | (refine' r_itemL ?zS ?zm ?za ?zb ?zx ?_ ?zhs; (case zS => assumption); (case zm => k_mem); (case za => decide); (case zb => decide); (case zx => exact rfl); (case zhs => exact rfl); k_whole)
    | (refine' r_itemT ?zS ?zm ?za ?zb ?zx ?_ ?zhs; (case zS => assumption); (case zm => k_mem); (case za => decide); (case zb => decide); (case zx => exact rfl); (case zhs => exact rfl); k_whole)
    | (refine' r_menuB ?zC ?zS ?zl ?zb ?za ?zc ?zd ?_ ?zhs; (case zC => assumption); (case zS => assumption); (case zl => k_is); (case zb => exact rfl); (case za => omega); (case zc => (simp only [List.length_cons, List.length_nil]); omega); (case zd => decide); (case zhs => exact rfl); k_whole; intro _ _)))
  k_with "binaryOp Add ref ref" => (k_dflt (refine' r_addL ?zS ?za ?zb ?zz ?_; (case zS => assumption); (case za => k_mem); (case zb => k_mem); (case zz => (try simp only [List.length_append, List.length_cons, List.length_nil]); omega); k_whole); k_extra "my swap"; intro _ _ _ _)
  k_with "call type:tuple" => (k_dflt (refine' r_tupleOf ?zS ?za ?zz ?_; (case zS => assumption); (case za => k_mem); (case zz => (try simp only [List.length_append, List.length_cons, List.length_nil]); omega); k_whole); k_extra "my swap"; intro _ _ _ _)
  k_with "my slice" => (k_dflt (refine' r_sliceL ?zS ?zm ?zpl ?zpu ?zhs ?zht ?zhz ?_; (case zS => assumption); (case zm => k_mem); (case zpl => first | exact .none | exact .int _ _); (case zpu => first | exact .none | exact .int _ _); (case zhs => exact rfl); (case zht => exact fun _ => rfl); (case zhz => (try simp only [List.length_append, List.length_cons, List.length_nil]); omega); k_whole); k_extra "my swap"; intro _ _ _ _)
  k_with "eval Dict nil nil" => (k_dflt (refine' r_newDict ?zC ?zS ?_; (case zC => assumption); (case zS => assumption); k_whole); k_extra "my swap"; intro _ _ _ _ _ _ _)
  k_with "my slice" => ((fail_if_success (with_reducible show wpAny _ _ (subscriptTail (PySem.Expr.Name _ _) _ _ _) _ _ _)); k_dflt (refine kba_turn (value' := PySem.Expr.Name (PySem.Str.ofString "_") ⟨0, 0, 0, 0⟩) (fun _ => rfl) ?_); k_extra "my slice")
  k_with "my stop" => first
    | (with_reducible show wpAny _ _ (subscriptTail _ _ (Value.ref _) (Value.ref _)) _ _ _)
    | (with_reducible show wpAny _ _ (setItem (Value.ref _) (Value.ref _) _) _ _ _)
    | (with_reducible show wpAny _ _ (call (Value.builtin "dict.pop") _) _ _ _)
    | (with_reducible show wpAny _ _ (call (Value.builtin "dict.get") _) _ _ _)
    | (with_reducible show wpAny _ _ (call (Value.builtin "list.index") _) _ _ _)
    | (with_reducible show wpAny _ _ (compareOp _ (Value.ref _) (Value.ref _)) _ _ _)
    | (with_reducible show wpAny _ _ (pyIter (Value.ref _)) _ _ _)
  k_with "my fold" => (refine foldQ ?_; intro _ _)
  k_with "my unfold" => first | ((rename ∀ (_ : Flow) (_ : Shared), _ → _ => hq; refine hq _ _ ?_; clear hq); (rename Flow → Shared → Prop => q; clear q); (try dsimp only)) | ((rename ∀ (_ : Value) (_ : Shared), _ → _ => hq; refine hq _ _ ?_; clear hq); (rename Value → Shared → Prop => q; clear q); (try dsimp only))
  k_with "my step" => first
    | ((with_reducible show wpAny _ _ (subscriptTail _ _ (Value.ref _) (Value.ref (Array.size _))) _ _ _); k_extra "my slice")
    | ((with_reducible show wpAny _ _ (exec _ _) (NextIs _) _ _); k_extra "my fold")
    | ((fail_if_success k_extra "my stop"); first | walk1 | (dsimp only; walk1) | k_extra "my unfold")
  k_with "my go" => repeat' k_extra "my step"
  k_with "my goIf" => repeat' ((fail_if_success (with_reducible show wpAny _ _ (exec (Stmt.If _ _ _ _) _) _ _ _)); k_extra "my step")
  k_with "my goFor" => repeat' ((fail_if_success (with_reducible show wpAny _ _ (exec (Stmt.For _ _ _ _ _) _) _ _ _)); k_extra "my step")
  k_with "binaryOp LShift int int" => (refine r_shl ?za ?zb ?zc ?_; (case za => omega); (case zb => omega); (case zc => omega); intro _ _)
  k_with "binaryOp BitOr int int" => (refine r_or ?_; intro _ _)
  trivial

theorem lines_T4_0 : True := by
  k_with "call ref" => (k_dflt (refine' r_call (draw_code ?zC ?zn (St.bring2 ?zS ?zs1 ?zs2) ?zD ?zk ?_); (case zC => assumption); (case zD => assumption); (case zn => first | (refine up1 (by assumption) ?_; exact rfl) | omega); (case zS => assumption); (case zs1 => k_extra "my sel"); (case zs2 => k_extra "my sel"); (case zk => decide); k_whole); k_extra "my swap"; k_extra "my swapD"; intro _ _ _ _ _ _ _ _ _ _; dsimp only [CallBack])
  k_with "eval Call" => ((with_reducible show wpAny _ _ (eval (PySem.Expr.Call (PySem.Expr.Name (PySem.Str.ofString "_law_draw") _) _ _ _) _) _ _ _); k_dflt (refine' r_draw ?zhe ?zC ?zn ?zS ?zv ?zk1 ?zx1 ?zx2 ?zs1 ?zs2 ?zD ?zk ?_; (case zhe => assumption); (case zC => assumption); (case zD => assumption); (case zn => first | (refine up1 (by assumption) ?_; exact rfl) | omega); (case zS => assumption); (case zv => first | exact rfl | assumption); (case zk1 => exact rfl); (case zx1 => exact rfl); (case zx2 => exact rfl); (case zs1 => k_extra "my sel"); (case zs2 => k_extra "my sel"); (case zk => decide); k_whole); k_extra "my swap"; k_extra "my swapD"; intro _ _ _ _ _ _ _ _ _ _ _ _)
  k_with "call ref" => (k_dflt (refine' r_make (fI := 50) ?zC ?zS ?zhm ?zhi ?zhf ?_; (case zC => assumption); (case zS => assumption); (case zhm => k_is); (case zhi => k_is); (case zhf => k_is); k_whole); k_extra "my swap"; intro _ _ _ _ _ _; refine' tinit_code ?zC ?zn ?zS ?_; (case zC => assumption); (case zn => first | (refine up1 (by assumption) ?_; exact rfl) | omega); (case zS => assumption); (rename St _ _ _ _ _ => zzS; clear zzS); (rename Fx _ _ _ _ _ _ => zzC; clear zzC); intro _ _ _ _ _ _; dsimp only [InitBack, CallBack])
  k_with "my swapT" => ((try (rename Rec _ _ => so; clear so)))
  k_with "call ref" => (k_dflt (refine' r_call (tput_code ?zC ?zn (St.bring2 ?zS ?zs1 ?zs2) ?zho ?_); (case zC => assumption); (case zho => exact ⟨_, _, by assumption⟩); (case zn => first | (refine up1 (by assumption) ?_; exact rfl) | omega); (case zS => assumption); (case zs1 => k_extra "my sel"); (case zs2 => k_extra "my sel"); k_whole); k_extra "my swap"; k_extra "my swapT"; rintro _ _ _ ⟨_, _, _⟩ _; dsimp only [CallBack])
  k_with "call ref" => (k_dflt (refine' r_call (tpush_code ?zC ?zn (St.bring3 ?zS ?zs1 ?zs2 ?zs3) ?zho ?zhs ?zhz ?_); (case zC => assumption); (case zho => exact ⟨_, _, by assumption⟩); (case zn => first | (refine up1 (by assumption) ?_; exact rfl) | omega); (case zS => assumption); (case zs1 => k_extra "my sel"); (case zs2 => k_extra "my sel"); (case zs3 => k_extra "my sel"); (case zhs => assumption); (case zhz => omega); k_whole); k_extra "my swap"; intro _ _ _ _ _ _ _ _; dsimp only [CallBack])
  k_with "call ref" => (k_dflt (refine' r_call (tpop_code ?zC ?zn (St.bring3 ?zS ?zs1 ?zs2 ?zs3) ?zho ?zhs (Sub.mem ?zhT) ?zhz ?_); (case zC => assumption); (case zho => exact ⟨_, _, by assumption⟩); (case zn => first | (refine up1 (by assumption) ?_; exact rfl) | omega); (case zS => assumption); (case zs1 => k_extra "my sel"); (case zs2 => k_extra "my sel"); (case zs3 => k_extra "my sel"); (case zhs => assumption); (case zhT => k_extra "my sub"); (case zhz => omega); k_whole); k_extra "my swap"; k_extra "my swapT"; rintro _ _ _ _ _ _ ⟨_, _, _⟩ _; dsimp only [CallBack])
  trivial
inductive TJ (w : World) (d c : Addr) (l : List (Addr × Obj)) (mo : Int) (m : Str → Option Value) (l' : List (Addr × Obj)) : Prop
  | mk (od oc : Obj) (x dx : Addr) (tod : Obj) (sk : Addr) (us : List Value) (k : Nat) (nm : Addr) (na nb : Tok) (kn : Nat) (pl : Addr) (ps : List Value) (kp : Nat) (a b : List UInt8) (xs : List (List UInt8 × List UInt8)) (T : List (Addr × Obj)) (tm : Tok)
    (m1 : m (Str.ofString "deck") = some (.ref d)) (m2 : m (Str.ofString "titles") = some (.ref x)) (m3 : m (Str.ofString "names") = some (.ref nm)) (m4 : m (Str.ofString "pile") = some (.ref pl))
    (m5 : m (Str.ofString "most") = some (.int mo tm)) (hD : Deck PySem.Challenge.rw_og0239_01.row.prog w od oc c) (ht : TRec tod a b sk) (hs : Stk T xs us) (hp : Stk T xs ps) (hz : (xs.length : Int) ≤ mo) (hT : l.Sublist T)
    (e : l' = (d, od) :: (c, oc) :: (x, instObj 74 dx) :: (dx, tod) :: (sk, W.listOf us.toArray k) :: (nm, W.listOf [.bytes a.toArray na, .bytes b.toArray nb].toArray kn) :: (pl, W.listOf ps.toArray kp) :: T) : TJ w d c l mo m l'
/-- the pair given back, as the law's own loop goes on -/
inductive TL (d c x dx dp sk : Addr) (odd occ od2 : Obj) (us2 ps : List Value) (k2 : Nat) (T : List (Addr × Obj)) (xs : List (List UInt8 × List UInt8)) (dl I : Addr) (o₁ : Obj) (mo r1 : Int) (tm : Tok) (a b : List UInt8) (i : Nat) (m' : Str → Option Value) (l' : List (Addr × Obj)) : Prop
  | mk (na nb : Tok) (kn : Nat) (nm' : Addr) (a' b' : List UInt8) (q1 : m' (Str.ofString "deck") = some (.ref d)) (q2 : m' (Str.ofString "titles") = some (.ref x)) (q3 : m' (Str.ofString "names") = some (.ref nm')) (q4 : m' (Str.ofString "pile") = some (.ref dp)) (q5 : m' (Str.ofString "most") = some (.int mo tm))
    (q6 : ∃ tw, m' (Str.ofString "which") = some (.int r1 tw)) (e0 : i = 0 → a' = a ∧ b' = b) (e1 : i = 1 → a' = lastA xs r1 a ∧ b' = lastB xs r1 b)
    (e : l' = (dl, W.listOf ps.getLast?.toList.toArray 0) :: (I, o₁) :: (d, odd) :: (c, occ) :: (x, instObj 74 dx) :: (dx, od2) :: (sk, W.listOf us2.toArray k2) :: (nm', W.listOf [.bytes a'.toArray na, .bytes b'.toArray nb].toArray kn) :: (dp, W.listOf ps.dropLast.toArray 0) :: T) :
    TL d c x dx dp sk odd occ od2 us2 ps k2 T xs dl I o₁ mo r1 tm a b i m' l'
theorem el_tup {prog : Program} {w : World} {K : Frag} {A : Around} {n : Nat} {g h : Heap} {env : Env} {L Cm ad : Addr} {m' : Str → Option Value} {its : List Value} {s₀ : Shared} {t : Nat} {cn : Str} {cs : Scope} {fa : Addr} {ccd : Value} {scope : Scope} {x : Str} {p1 p2 p3 : Pos}
    (C : Fx K A n g env L) (he : env = envX cn cs L fa ccd []) (k : ∀ b o, g.get? b = some o → h.get? b = some o) (hn : h.Ns Cm m') (ho : h.get? ad = some (tupO its)) (hm : m' x = some (.ref ad)) (e : nsIn K mainGlobals (Str.ofString "tuple") = some none) (hk : cs.kind = .function)
    (hx : (compEnvC scope [] Cm env).kindOf x = some .local) (hi : (compEnvC scope [] Cm env).kindOf (Str.ofString "tuple") = some .globalImplicit) (hd : (x == ("__debug__" : Str)) = false) (hs : scope.kind = .function) :
    wpAny (model prog w) A (eval (.Call (.Name (Str.ofString "tuple") p1) [.Name x p2] [] p3) (compEnvC scope [] Cm env)) (fun y s₄ => y = .ref ad ∧ Keeps (sg s₀ h t) s₄) (fun _ _ => False) (sg s₀ h t) := by
  have hs' : (compEnvC scope [] Cm env).scope.kind = .function := hs
  have hg : env.globals = mainGlobals := by subst he; rfl
  have hb : env.builtins = builtinsNs := by subst he; rfl
  refine PyProof.Rows.Call_Name1 (rc_built C k e (by boot_by_name) (by decide) hs' hi hg hb (by decide) ?_) rfl
  refine PyProof.Rows.callWith_type1 (e := .Name x p2) (rest := []) (PyProof.Rows.args_cons (rc_local hn hm hs' hx hd (PyProof.Rows.args_nil ?_)) rfl) rfl rfl
  exact call_tuple_same (s := sg s₀ h t) (items := its.toArray) ⟨_, ho, rfl, 0, rfl⟩ ⟨rfl, h, t, rfl, fun _ _ e => e⟩
theorem lines_T4_1 : True := by
  k_with "eval ListComp" => (k_dflt (refine' r_comp (fun v y => y = v) ?zC ?zS ?zhclos ?zhcell ?zhkind ?zhnames ?zhx ?zhs ?_; (case zC => assumption); (case zS => assumption); (case zhclos => exact rfl); (case zhcell => decide); (case zhkind => exact rfl); (case zhnames => decide); (case zhx => exact rfl); (case zhs => exact fun _ => rfl); k_whole))
  trivial
theorem titles_code {w : World} {A : Around} {n : Nat} {g h : Heap} {env : Env} {L d c : Addr} {m : Str → Option Value} {l : List (Addr × Obj)} {s₀ : Shared} {t : Nat} {od oc : Obj} {R : Result → Shared → Prop}
    (C : Fx (Mine.hd.heap_39 w.params) A n g env L) (hn : n ≤ 40) (S : St g L h m ((d, od) :: (c, oc) :: l)) (D : Deck PySem.Challenge.rw_og0239_01.row.prog w od oc c)
    (hR : ∀ h' t' od' oc', Deck PySem.Challenge.rw_og0239_01.row.prog w od' oc' c → St g L h' m ((d, od') :: (c, oc') :: l) → R (.ok (.ret (.bool true))) (sg s₀ h' t')) :
    codeAny (model PySem.Challenge.rw_og0239_01.row.prog w) A (.call (.ref 202) ⟨[.ref d], []⟩) R (sg s₀ h t) := by
  revert C; k_fill; intro C
  refine' enter [Str.ofString "deck"] ?C ?S ?k6 ?k7 ?kn ?k9 ?kB ?kD ?_ ?c2 ?c3 ?c4 ?c5
  k_extra "my entered"
  rename_i g' L' h' t' env' _ he st C' S' _ _
  k_extra "my goFor"
  rename TRec _ _ _ _ => ht
  rename Deck _ _ _ _ _ => hD
  rename St _ _ _ _ _ => S
  refine' r_for ?he ?hk ?hx ?hs g' ?_
  (case he => assumption)
  (case hk => exact rfl)
  (case hx => exact rfl)
  (case hs => exact fun _ => rfl)
  rename_i r0 _ _ _ _ _ b0 b1 _ _ _ _ _ _ _ _ _ _ _ _ _ _ _ _
  k_extra "my go"
  rename IsRange _ _ _ _ _ _ _ _ => hr
  rename Deck _ _ _ _ _ => hD
  rename St _ _ _ _ _ => S
  rename_i h0 h1 _ _ _ _ _ _ _ _
  rename_i x0q dx1q h2q t3q sk4q h5q t6q od7q tk8q t9q tk10q t11q d12q h13q t14q d15q h16q t17q tk18q t19q tk20q t21q tr22q h23q t24q od25q oc26q tk27q t28q d29q h30q t31q h32q h33q t34q h35q t36q h37q t38q h39q t40q _ _ tk41q t42q tk43q t44q r45q tr46q h47q t48q od49q oc50q tk51q t52q r53q h54q t55q ta56q tb57q tc58q
  have S := S.subS (l' := (d, od49q) :: (c, oc50q) :: (x0q, instObj 74 dx1q) :: (dx1q, od7q) :: (sk4q, W.listOf #[] 0) :: (d12q, W.listOf #[.bytes #[] tk8q, .bytes #[] tk10q] 0) :: (d15q, W.listOf #[] 0) :: l) (by k_extra "my sub")
  refine' iter_range (fun _ m l' => TJ w d c l (1 + r0) m l') (by assumption) C'.hnd hr ?hk S ?hj ?turn ?done
  case hk => omega
  case hj => exact ⟨_, _, _, _, _, _, [], _, _, _, _, _, _, [], _, [], [], [], _, _, rfl, rfl, rfl, rfl, rfl, hD, ht, .nil, .nil, by simp; omega, List.Sublist.refl _, rfl⟩
  case turn =>
    rintro i v m₁ l₁ h₁ t₁ I o₁ hi ⟨ti, rfl⟩ ⟨od, oc, x, dx, tod, sk, us, k, nm, na, nb, kn, pl, ps, kp, a, b, xs, T, tm, m1, m2, m3, m4, m5, hD, ht, hs, hp, hz, hT, rfl⟩ S
    k_extra "my fold"
    k_extra "my goIf"
    rename_i r2 tr2 _ _ _ _ w0 w1 _ _ r1 tr1 _ _ _ _ v0 v1 _ _ r3 tr3 _ _ odd occ _ _ hD2 tx ttx d3 _ _ _ _ _ _ _ _ _ S2 _ _
    clear S
    refine cutS (MidJ s₀ g' L' I o₁ (TJ w d c l (1 + r0))) ?_ ?_
--<1
    · skip
      have hl1 := hs.length
      obtain ⟨ta, tb, ht⟩ := ht
      have hl2 := hp.length
      k_extra "my go"
      · rename_i od2 ta2 tb2 ho2 _ _ c1 _ _ c2 nd _ _ _ _ S2
        rw [if_neg (by simpa using c1), if_neg (by simpa using c2)] at ho2
        refine' mid_S _ S2 ?sub ⟨_, _, x, dx, _, sk, us, k, _, _, _, 0, pl, ps, kp, _, _, xs, T, tm, m1, m2, rfl, m4, m5, ?hD, ⟨_, _, ho2⟩, hs, hp, hz, hT, rfl⟩
        case hD => exact hD2
        case sub => k_extra "my sub"
      · rename_i od2 ta2 tb2 ho2 _ _ c1 _ _ c2 _ _ nd _ _ _ _ S2
        rw [if_neg (by simpa using c1), if_pos (by simpa using c2)] at ho2
        refine' mid_S _ S2 ?sub ⟨_, _, x, dx, _, sk, us, k, _, _, _, 0, pl, ps, kp, _, _, xs, T, tm, m1, m2, rfl, m4, m5, ?hD, ⟨_, _, ho2⟩, hs, hp, hz, hT, rfl⟩
        case hD => exact hD2
        case sub => k_extra "my sub"
      · rename_i od2 ta2 tb2 ho2 _ _ c1 _ _ _ _ nd _ _ _ _ S2
        rw [if_pos (by simpa using c1), if_neg (by have := (show _ = (2 : Int) by simpa using c1); omega)] at ho2
        refine' mid_S _ S2 ?sub ⟨_, _, x, dx, _, sk, us, k, _, _, _, 0, pl, ps, kp, _, _, xs, T, tm, m1, m2, rfl, m4, m5, ?hD, ⟨_, _, ho2⟩, hs, hp, hz, hT, rfl⟩
        case hD => exact hD2
        case sub => k_extra "my sub"
      · rename_i k2 tp vs us2 hs2 d3 _ _ _ _ _ _ _ _ _ _ dn _ _ _ _ S2
        have hp2 := Stk.push hp (tp := d3) (a := a) (b := b) (ta := na) (tb := nb) (.head _)
        rw [pick_push (by omega) (by omega)] at S2
        have hs3 : Stk ((d3, tupO [.bytes a.toArray na, .bytes b.toArray nb]) :: (tp, tupO vs) :: T) (if 1 + r0 < (xs.length : Int) + 1 then (xs ++ [(a, b)]).tail else xs ++ [(a, b)]) us2 := hs2.mono fun _ h => .tail _ h
        have hp3 : Stk ((d3, tupO [.bytes a.toArray na, .bytes b.toArray nb]) :: (tp, tupO vs) :: T) (if 1 + r0 < (xs.length : Int) + 1 then (xs ++ [(a, b)]).tail else xs ++ [(a, b)]) (if 1 + r0 < (ps.length : Int) + 1 then (ps ++ [Value.ref d3]).tail else ps ++ [Value.ref d3]) := by
          have e : ∀ q ∈ (d3, tupO [.bytes a.toArray na, .bytes b.toArray nb]) :: T, q ∈ (d3, tupO [.bytes a.toArray na, .bytes b.toArray nb]) :: (tp, tupO vs) :: T := fun q h => by
            rcases List.mem_cons.mp h with rfl | h
            · exact .head _
            · exact .tail _ (.tail _ h)
          rw [← hl2]
          split
          · exact (hp2.mono e).tail
          · exact hp2.mono e
        refine' mid_S _ S2 ?sub ⟨_, _, x, dx, _, sk, us2, k2, nm, na, nb, kn, dn, _, 0, _, _, _, (d3, tupO [.bytes a.toArray na, .bytes b.toArray nb]) :: (tp, tupO vs) :: T, tm, m1, m2, m3, rfl, m5, ?hD, ⟨_, _, ht⟩, hs3, hp3, ?_, (hT.cons _).cons _, rfl⟩
        case hD => exact hD2
        case sub => k_extra "my sub"
        split
        · simp only [List.length_tail, List.length_append, List.length_cons, List.length_nil]; omega
        · simp only [List.length_append, List.length_cons, List.length_nil]; omega
      · rename_i k2 od2 us2 hs2 ta2 tb2 ho2 _ _ _ _ dl _ _ _ _ _ _ dp _ _ dt _ _ _ _ _ _ _ S2 _ _
        have hz2 := hs2.length
        rw [pick_last, pick_init] at S2
        refine For_T ?_ (fun _ => rfl)
        walk1
        have S3 := S2.subS (l' := (dl, W.listOf ps.getLast?.toList.toArray 0) :: (I, o₁) :: (d, odd) :: (c, occ) :: (x, instObj 74 dx) :: (dx, od2) :: (sk, W.listOf us2.toArray k2) :: (nm, W.listOf [.bytes a.toArray na, .bytes b.toArray nb].toArray kn) :: (dp, W.listOf ps.dropLast.toArray 0) :: T) (by k_extra "my sub")
        clear S2
        refine iter_listT (D := dl) (items := ps.getLast?.toList.toArray) (c := 0) (fun i m' l' => TL d c x dx dp sk odd occ od2 us2 ps k2 T xs dl I o₁ (1 + r0) r1 tm a b i m' l') C'.hnd S3 ?_ ?_ ?_ ?_
        · rintro i m l ⟨_, _, _, _, _, _, _, _, _, _, _, _, _, _, rfl⟩; exact .head _
        · exact ⟨na, nb, kn, nm, a, b, m1, m2, m3, rfl, m5, ⟨_, rfl⟩, fun _ => ⟨rfl, rfl⟩, fun h => absurd h (by decide), rfl⟩
        · rintro i v m₁ l₁ h₁ t₁ I2 o2 hi hv ⟨na', nb', kn', nm', a', b', q1, q2, q3, q4, q5, ⟨tw, q6⟩, e0, e1, rfl⟩ S
          have hne : ps ≠ [] := fun e => by subst e; exact absurd hi (Nat.not_lt_zero _)
          obtain ⟨p, hp1, ad, vs, he, hm, hpr⟩ := hp.last hne
          obtain ⟨ti', tj', rfl⟩ : ∃ ti tj, vs = [.bytes p.1.toArray ti, .bytes p.2.toArray tj] := by
            cases hpr with | cons a r => cases r with | cons b r => cases r; obtain ⟨_, rfl⟩ := a; obtain ⟨_, rfl⟩ := b; exact ⟨_, _, rfl⟩
          have hl3 : ps.getLast? = some (.ref ad) := by rw [List.getLast?_eq_some_getLast hne, he]
          rw [hl3] at hi hv
          have hi0 : i = 0 := by simpa using hi
          subst hi0
          obtain rfl : Value.ref ad = v := by simpa using hv
          obtain ⟨rfl, rfl⟩ := e0 rfl
          refine r_unpack C' S (T := ad) (items := #[.bytes p.1.toArray ti', .bytes p.2.toArray tj']) (c := 0) (Sub.mem (l' := T) (by k_extra "my sub") _ hm) rfl rfl ?_
          clear S
          intro h S
          dsimp only [assignEach, List.map]
          k_extra "my go"
          · rename_i c1 _ _ c2 nd _ _ _ _ S2
            refine' turn_S _ S2 ?sub ⟨_, _, 0, nd, p.1, p.2, q1, q2, rfl, q4, q5, ⟨_, q6⟩, fun h => absurd h (by decide), fun _ => ?_, rfl⟩
            case sub => k_extra "my sub"
            rw [lastA_some hp1, lastB_some hp1]
            rw [if_neg (by simpa using c1), if_neg (by simpa using c2)]; exact ⟨rfl, rfl⟩
          · rename_i c1 _ _ c2 _ _ nd _ _ _ _ S2
            refine' turn_S _ S2 ?sub ⟨_, _, 0, nd, p.1, _, q1, q2, rfl, q4, q5, ⟨_, q6⟩, fun h => absurd h (by decide), fun _ => ?_, rfl⟩
            case sub => k_extra "my sub"
            rw [lastA_some hp1, lastB_some hp1]
            rw [if_neg (by simpa using c1), if_pos (by simpa using c2)]; exact ⟨rfl, rfl⟩
          · rename_i c1 _ _ _ _ nd _ _ _ _ S2
            refine' turn_S _ S2 ?sub ⟨_, _, 0, nd, _, p.2, q1, q2, rfl, q4, q5, ⟨_, q6⟩, fun h => absurd h (by decide), fun _ => ?_, rfl⟩
            case sub => k_extra "my sub"
            rw [lastA_some hp1, lastB_some hp1]
            rw [if_pos (by simpa using c1), if_neg (by have := (show r1 = (2 : Int) by simpa using c1); omega)]; exact ⟨rfl, rfl⟩
        · rintro h t m' l' S ⟨na', nb', kn', nm', a', b', q1, q2, q3, q4, q5, ⟨tw, q6⟩, e0, e1, rfl⟩
          k_extra "my go"
          have e : a' = lastA xs r1 a ∧ b' = lastB xs r1 b := by
            by_cases hne : ps = []
            · subst hne
              cases hp
              exact e0 rfl
            · refine e1 ?_
              rw [List.getLast?_eq_some_getLast hne]
              rfl
          obtain ⟨rfl, rfl⟩ := e
          refine mid_S ((d, odd) :: (c, occ) :: (x, instObj 74 dx) :: (dx, od2) :: (sk, W.listOf us2.toArray k2) :: (nm', _) :: (dp, W.listOf ps.dropLast.toArray 0) :: T) S (by k_extra "my sub") ⟨odd, occ, x, dx, od2, sk, us2, k2, nm', na', nb', kn', dp, ps.dropLast, 0, _, _, xs.dropLast, T, tm, q1, q2, q3, q4, q5, hD2, ⟨_, _, ho2⟩, hs2, hp.dropLast, ?_, hT, rfl⟩
          rw [List.length_dropLast]; omega
--1>
    · rintro s' ⟨h, t, m, l', rfl, S, ⟨od, oc, x, dx, tod, sk, us, k, nm, na, nb, kn, pl, ps, kp, a, b, xs, T, tm, m1, m2, m3, m4, m5, hD, ⟨ta, tb, ht⟩, hs, hp, hz, hT, rfl⟩⟩
      clear S2
      have hl := hs.length
      k_extra "my go"
      rename St _ _ _ _ _ => S
      refine r_neL bytesE C' (up1 hn rfl) (by decide) (xs := [a, b]) (ys := [a, b]) S (by k_mem) (by k_mem) (.cons (bt_refl _ _) (.cons (bt_refl _ _) .nil)) (.cons (bt_refl _ _) (.cons (bt_refl _ _) .nil)) ?_
      rw [decide_eq_true rfl]
      k_extra "my go"
      refine ⟨sk, us, k, _, _, _, rfl, rfl, S, by k_mem, by omega, ?el, ?_⟩
      case el =>
        intro s₀' Cm h' t' m' v hv k hn hm
        obtain ⟨p, ad, vs, rfl, hm2, _⟩ := Paired.right hs v hv
        exact el_tup C' he (fun b o e => k b o (S.old e)) hn (k _ _ (S.get (Sub.mem (l' := T) (by k_extra "my sub") _ hm2))) hm (by k_is) rfl rfl rfl (by decide) rfl
      clear S
      intro R h t ys kR hp' S
      rw [paired_id hp'] at S
      k_extra "my go"
      rename St _ _ _ _ _ => S
      refine r_neL (tupE bytesE) C' (up1 hn rfl) (by decide) S (by k_mem) (by k_mem) (hs.are S (Sub.mem (l' := T) (by k_extra "my sub"))) (hp.are S (Sub.mem (l' := T) (by k_extra "my sub"))) ?_
      rw [decide_eq_true rfl]
      k_extra "my go"
      refine' turn_S _ S ?sub ⟨od, oc, x, dx, tod, sk, us, k, nm, na, nb, kn, pl, ps, kp, a, b, xs, T, tm, m1, m2, m3, m4, m5, hD, ⟨ta, tb, ht⟩, hs, hp, hz, hT, rfl⟩
      case sub => k_extra "my sub"
  case done =>
    rintro h t m l' S ⟨od, oc, x, dx, tod, sk, us, k, nm, na, nb, kn, pl, ps, kp, a, b, xs, T, tm, m1, m2, m3, m4, m5, hD, ht, hs, hp, hz, hT, rfl⟩
    k_extra "my go"
    rename St _ _ _ _ _ => S
    exact hR _ _ _ _ hD (S.subl ((((((hT.cons _).cons _).cons _).cons _).cons _).cons_cons _ |>.cons_cons _))

end
section
theorem lines_T5 : True := by
  k_with_none
  k_with "subscriptTail" => ((fail_if_success (with_reducible show wpAny _ _ (subscriptTail (PySem.Expr.Name _ _) _ _ _) _ _ _)); k_dflt (refine kba_turn (value' := PySem.Expr.Name (PySem.Str.ofString "_") ⟨0, 0, 0, 0⟩) (fun _ => rfl) ?_))
  k_with "my spot" => first | exact Spot.head | (refine' Spot.tail ?zspt; (case zspt => k_extra "my spot"))
  k_with "my swap" => ((try (rename St _ _ _ _ _ => so; clear so)))
  k_with "my subl" => first | exact List.Sublist.refl _ | (refine List.Sublist.cons_cons _ ?_; k_extra "my subl") | (refine List.Sublist.cons _ ?_; k_extra "my subl")
  k_with "my dec" => first | assumption | decide | omega | ((simp only [decide_eq_true_eq, decide_eq_false_iff_not, beq_iff_eq, bne_iff_ne, ne_eq, Bool.not_eq_true, Bool.not_eq_false, Bool.not_eq_true', Bool.not_eq_false', beq_eq_false_iff_ne, bne_eq_false_iff_eq]); omega) | (simp_all; done)
  k_with "eval Name" => (k_dflt (first
    | (refine' r_local ?zhe ?zS ?zv ?zk ?zx ?zd ?_; (case zhe => assumption); (case zS => assumption); (case zv => first | exact rfl | assumption); (case zk => exact rfl); (case zx => exact rfl); (case zd => decide); k_whole)
    | (refine' r_global ?zhe ?zC ?zS ?ze ?zk ?zx ?zd ?_; (case zhe => assumption); (case zC => assumption); (case zS => assumption); (case ze => k_is); (case zk => exact rfl); (case zx => exact rfl); (case zd => decide); k_whole)
    | (refine' r_builtin ?zhe ?zC ?zS ?ze ?zv ?zn ?zk ?zx ?zd ?_; (case zhe => assumption); (case zC => assumption); (case zS => assumption); (case ze => k_is); (case zv => boot_by_name); (case zn => decide); (case zk => exact rfl); (case zx => exact rfl); (case zd => decide); k_whole)))
  k_with "storeName" => (k_dflt (refine' r_store ?zhe ?zS ?zk ?zx ?_; (case zhe => assumption); (case zS => assumption); (case zk => exact rfl); (case zx => exact rfl); k_whole); k_extra "my swap"; intro _ _ _)
  k_with "eval Constant int" => (refine r_cint ?_; intro _ _)
  k_with "eval Constant str" => (refine r_cstr ?_; intro _ _)
  k_with "eval Constant bytes" => (refine r_cbytes ?_; intro _ _)
  k_with "eval Constant bool" => (refine r_cbool ?_)
  k_with "eval Constant none" => (refine r_cnone ?_)
  k_with "binaryOp Add int int" => (refine r_add ?_; intro _ _)
  k_with "binaryOp Sub int int" => (refine r_sub ?_; intro _ _)
  k_with "binaryOp Mult int int" => (refine r_mul ?za ?_; (case za => mul_fits); intro _ _)
  k_with "binaryOp Mod int int" => (refine r_mod ?za ?_; (case za => first | decide | omega | assumption); intro _ _)
  k_with "binaryOp FloorDiv int int" => (refine r_fdiv ?za ?zb ?_; (case za => first | decide | omega); (case zb => first | decide | omega); intro _ _)
  k_with "compareOp Eq int int" => (refine r_eq ?_)
  k_with "compareOp NotEq int int" => (refine r_ne ?_)
  k_with "compareOp Lt int int" => (refine r_lt ?_)
  k_with "compareOp LtE int int" => (refine r_le ?_)
  k_with "compareOp Gt int int" => (refine r_gt ?_)
  k_with "compareOp GtE int int" => (refine r_ge ?_)
  k_with "unaryOp USub int" => (refine r_neg ?_; intro _ _)
  k_with "newTuple" => (refine' r_tuple ?zS ?zz ?_; (case zS => assumption); (case zz => exact Nat.le_of_ble_eq_true rfl); k_extra "my swap"; intro _ _ _ _)
  k_with "newList" => (refine' r_list ?zS ?zz ?_; (case zS => assumption); (case zz => exact Nat.le_of_ble_eq_true rfl); k_extra "my swap"; intro _ _ _ _)
  k_with "ite" => first | (refine PySem.W.ite_pos ?za ?_; (case za => k_extra "my dec")) | (refine PySem.W.ite_neg ?za ?_; (case za => k_extra "my dec")) | (refine split_dec ?_ ?_ <;> intro _) | (refine split_bool ?_ ?_ <;> intro _)
  k_with "my entered" => ((case C => assumption); (case S => assumption); (case k6 => k_is); (case k7 => k_is); (case kn => first | (refine up1 (by assumption) ?_; exact rfl) | omega); (case k9 => first | exact BindsTo.of_eq rfl | exact binds_K (Fx.inn (by assumption) (by assumption)) rfl (by k_is) rfl rfl rfl); (case kB => exact locs rfl); (case kD => decide); (case c2 => exact rfl); (case c3 => exact rfl); (case c4 => exact rfl); (case c5 => decide); k_extra "my swap"; intro _ _ _ _ _ _ _ _ _ _; (try dsimp only); k_extra "my fold")
  k_with "execs cons" => (refine wpAny_execs_cons ?_; (try k_extra "my fold"))
  k_with "execs nil" => refine wpAny_execs_nil ?_
  k_with "exec If" => refine wpAny_If ?_
  k_with "isTrue Compare" => refine wpAny_isTrue_Compare1 ?_
  k_with "exec Return some" => refine wpAny_Return_some ?_
  k_with "eval BinOp" => refine wpAny_BinOp ?_
  k_with "truthy bool" => refine wpAny_truthy_bool ?_
  k_with "getMethod ref" => (k_dflt (refine' r_lmeth ?zS ?zm ?zs ?zt ?_; (case zS => assumption); (case zm => k_mem); (case zs => first | exact PySem.F.slot_list_append | exact PySem.F.slot_list_pop | exact PySem.F.slot_list_index); (case zt => first | exact PySem.F.type_list_append | exact PySem.F.type_list_pop | exact PySem.F.type_list_index); k_whole))
  k_with "LeaveS" => ((try dsimp only); (refine' leaveS ?zS ?_; (case zS => assumption)); k_extra "my swap"; intro _; (try dsimp only [flowV]))
  k_with "exec Assign" => (k_dflt (first
    | (refine' r_assignN ?zhe ?zhs ?_; (case zhe => assumption); (case zhs => exact rfl); k_whole)
    | (refine' r_assignT ?zhe ?zhs ?zhw ?_; (case zhe => assumption); (case zhs => exact rfl); (case zhw => exact rfl); k_whole)
    | (refine' r_assignTS ?zhe ?zhs ?zhw ?_; (case zhe => assumption); (case zhs => exact rfl); (case zhw => exact rfl); k_whole)
    | (refine' plainObj_wpAny_Assign_Attribute ?_ ?zhs; (case zhs => exact rfl); k_whole)
    | (refine' wpAny_Assign_Subscript ?_ ?zhs; (case zhs => exact rfl); k_whole)))
  k_with "assign Tuple" => (k_dflt (refine' r_unpack ?zC ?zS ?zm ?zk1 ?zk2 ?_; (case zC => assumption); (case zS => assumption); (case zm => k_mem); (case zk1 => exact rfl); (case zk2 => exact rfl); k_whole); k_extra "my swap"; intro _ _; dsimp only [assignEach, List.map])
  k_with "assignInOrder" => first | refine assignInOrder_nil ?_ | refine assignInOrder_cons ?_
  k_with "assign Name" => refine assign_Name ?_
  k_with "unpackItems ref" => (k_dflt (refine' r_unpackItems ?zC ?zS ?zm ?zk1 ?_; (case zC => assumption); (case zS => assumption); (case zm => k_mem); (case zk1 => exact rfl); k_whole); k_extra "my swap"; intro _ _; dsimp only [List.reverse, List.reverseAux, List.map])
  k_with "bindName" => refine r_bindName ?_
  k_with "my sel" => first | exact Sel.head | (refine' Sel.tail ?zsel; (case zsel => k_extra "my sel"))
  k_with "my sub" => first
    | exact Sub.refl
    | (refine' Sub.take Sel.head ?zrest; (case zrest => k_extra "my sub"))
    | ((fail_if_success (refine' Sub.probe ?zpra ?zprm; (case zprm => k_mem))); refine' Sub.skip ?zrest; (case zrest => k_extra "my sub"))
    | (refine' Sub.take ?zsel ?zrest; (case zsel => k_extra "my sel"); (case zrest => k_extra "my sub"))
    | (refine' Sub.skip ?zrest; (case zrest => k_extra "my sub"))
  k_with "getAttr ref" => (k_dflt (refine' r_getR ?zS ?zX ?zh1 ?zh2 ?zho ?zhg ?zhh ?zha ?zhn ?zhl ?zhv ?_; (case zS => assumption); (case zX => assumption); (case zh1 => k_mem); (case zh2 => k_mem); (case zho => assumption); (case zhg => k_is); (case zhh => k_is); (case zha => k_is); (case zhn => k_is); (case zhl => exact rfl); (case zhv => exact rfl); k_whole); intro _)
  k_with "setAttr ref" => (k_dflt (refine' r_setR ?zS ?zX ?zh1 ?zU ?zho ?zhs ?zhp ?zht ?zhh ?zhz ?_; (case zS => assumption); (case zX => assumption); (case zh1 => k_mem); (case zU => k_extra "my spot"); (case zho => first | assumption | exact rec_nil); (case zhs => k_is); (case zhp => k_is); (case zht => k_is); (case zhh => k_is); (case zhz => exact Nat.le_of_ble_eq_true rfl); k_whole); k_extra "my swap"; intro _ _ _ _ _; (try (rename St _ _ _ _ _ => zzS; (try dsimp only at zzS); revert zzS; intro _)))
  k_with "getMethod ref" => (k_dflt (refine' r_methR ?zS ?zX ?zh1 ?zh2 ?zho ?zhg ?zhf ?zht ?zhl ?_; (case zS => assumption); (case zX => assumption); (case zh1 => k_mem); (case zh2 => k_mem); (case zho => assumption); (case zhg => k_is); (case zhf => k_is); (case zht => k_is); (case zhl => exact rfl); k_whole))
  k_with "call builtin:list.append" => (k_dflt (refine' r_appendL ?zS ?zU ?zz ?_; (case zS => assumption); (case zU => k_extra "my spot"); (case zz => omega); k_whole); k_extra "my swap"; intro _ _ _ _; (try (rename St _ _ _ _ _ => zzS; (try dsimp only at zzS); revert zzS; intro _)))
  k_with "exec Expr" => (k_dflt (refine' r_expr ?zhe ?zhi ?zhs ?_; (case zhe => assumption); (case zhi => exact rfl); (case zhs => exact rfl); k_whole))
  k_with "call builtin:len" => (k_dflt (refine' r_lenL ?zS ?zm ?zz ?_; (case zS => assumption); (case zm => k_mem); (case zz => (try simp only [List.length_append, List.length_cons, List.length_nil]); omega); k_whole); intro _ _)
  k_with "call builtin:list.pop" => (k_dflt ((with_reducible show wpAny _ _ (call (Value.builtin _) [Value.ref _, Value.int _ _]) _ _ _); refine' r_pop0L ?zS ?zU ?zne ?zz ?_; (case zS => assumption); (case zU => k_extra "my spot"); (case zne => simp; done); (case zz => (try simp only [List.length_append, List.length_cons, List.length_nil]); omega); k_whole); k_extra "my swap"; intro _ _ _ _ _; (try (rename St _ _ _ _ _ => zzS; (try dsimp only at zzS); revert zzS; intro _)))
  k_with "callWith ref" => (k_dflt (first
    | (refine' r_callWith ?zX ?zhk ?_; (case zX => exact Fx.X (by assumption)); (case zhk => k_is); k_whole)
    | (refine' r_callWith0 ?zC ?zS ?zhk ?_; (case zC => assumption); (case zS => assumption); (case zhk => k_is); k_whole)))
  k_with "And" => ((with_reducible show Frag.In _ _ ∧ _); k_dflt (refine' r_kin ?zC ?zS ?_; (case zC => assumption); (case zS => assumption)); try dsimp only [List.nil_append, List.cons_append])
  k_with "my swapD" => ((try (rename Deck _ _ _ _ _ => so; clear so)))
  k_with "call type:range" => (k_dflt (refine' r_rangeN ?zS ?zz ?_; (case zS => assumption); (case zz => omega); k_whole); k_extra "my swap"; intro _ _ _ _ _ _ _ _)
  k_with "subscriptTail" => (k_dflt (first
    | (refine' r_itemL ?zS ?zm ?za ?zb ?zx ?_ ?zhs; (case zS => assumption); (case zm => k_mem); (case za => decide); (case zb => decide); (case zx => exact rfl); (case zhs => exact rfl); k_whole)
    | (refine' r_itemT ?zS ?zm ?za ?zb ?zx ?_ ?zhs; (case zS => assumption); (case zm => k_mem); (case za => decide); (case zb => decide); (case zx => exact rfl); (case zhs => exact rfl); k_whole)
    | (refine' r_menuB ?zC ?zS ?zl ?zb ?za ?zc ?zd ?_ ?zhs; (case zC => assumption); (case zS => assumption); (case zl => k_is); (case zb => exact rfl); (case za => omega); (case zc => (simp only [List.length_cons, List.length_nil]); omega); (case zd => decide); (case zhs => exact rfl); k_whole; intro _ _)))
  k_with "binaryOp Add ref ref" => (k_dflt (refine' r_addL ?zS ?za ?zb ?zz ?_; (case zS => assumption); (case za => k_mem); (case zb => k_mem); (case zz => (try simp only [List.length_append, List.length_cons, List.length_nil]); omega); k_whole); k_extra "my swap"; intro _ _ _ _)
  k_with "call type:tuple" => (k_dflt (refine' r_tupleOf ?zS ?za ?zz ?_; (case zS => assumption); (case za => k_mem); (case zz => (try simp only [List.length_append, List.length_cons, List.length_nil]); omega); k_whole); k_extra "my swap"; intro _ _ _ _)
  k_with "my slice" => (k_dflt (refine' r_sliceL ?zS ?zm ?zpl ?zpu ?zhs ?zht ?zhz ?_; (case zS => assumption); (case zm => k_mem); (case zpl => first | exact .none | exact .int _ _); (case zpu => first | exact .none | exact .int _ _); (case zhs => exact rfl); (case zht => exact fun _ => rfl); (case zhz => (try simp only [List.length_append, List.length_cons, List.length_nil]); omega); k_whole); k_extra "my swap"; intro _ _ _ _)
  k_with "eval Dict nil nil" => (k_dflt (refine' r_newDict ?zC ?zS ?_; (case zC => assumption); (case zS => assumption); k_whole); k_extra "my swap"; intro _ _ _ _ _ _ _)
  k_with "my slice" => ((fail_if_success (with_reducible show wpAny _ _ (subscriptTail (PySem.Expr.Name _ _) _ _ _) _ _ _)); k_dflt (refine kba_turn (value' := PySem.Expr.Name (PySem.Str.ofString "_") ⟨0, 0, 0, 0⟩) (fun _ => rfl) ?_); k_extra "my slice")
  k_with "my stop" => first
    | (with_reducible show wpAny _ _ (subscriptTail _ _ (Value.ref _) (Value.ref _)) _ _ _)
    | (with_reducible show wpAny _ _ (setItem (Value.ref _) (Value.ref _) _) _ _ _)
    | (with_reducible show wpAny _ _ (call (Value.builtin "dict.pop") _) _ _ _)
    | (with_reducible show wpAny _ _ (call (Value.builtin "dict.get") _) _ _ _)
    | (with_reducible show wpAny _ _ (call (Value.builtin "list.index") _) _ _ _)
    | (with_reducible show wpAny _ _ (compareOp _ (Value.ref _) (Value.ref _)) _ _ _)
    | (with_reducible show wpAny _ _ (pyIter (Value.ref _)) _ _ _)
  k_with "my fold" => (refine foldQ ?_; intro _ _)
  k_with "my unfold" => first | ((rename ∀ (_ : Flow) (_ : Shared), _ → _ => hq; refine hq _ _ ?_; clear hq); (rename Flow → Shared → Prop => q; clear q); (try dsimp only)) | ((rename ∀ (_ : Value) (_ : Shared), _ → _ => hq; refine hq _ _ ?_; clear hq); (rename Value → Shared → Prop => q; clear q); (try dsimp only))
  k_with "my step" => first
    | ((with_reducible show wpAny _ _ (subscriptTail _ _ (Value.ref _) (Value.ref (Array.size _))) _ _ _); k_extra "my slice")
    | ((with_reducible show wpAny _ _ (exec _ _) (NextIs _) _ _); k_extra "my fold")
    | ((fail_if_success k_extra "my stop"); first | walk1 | (dsimp only; walk1) | k_extra "my unfold")
  k_with "my go" => repeat' k_extra "my step"
  k_with "my goIf" => repeat' ((fail_if_success (with_reducible show wpAny _ _ (exec (Stmt.If _ _ _ _) _) _ _ _)); k_extra "my step")
  k_with "my goFor" => repeat' ((fail_if_success (with_reducible show wpAny _ _ (exec (Stmt.For _ _ _ _ _) _) _ _ _)); k_extra "my step")
  k_with "binaryOp LShift int int" => (refine r_shl ?za ?zb ?zc ?_; (case za => omega); (case zb => omega); (case zc => omega); intro _ _)
  k_with "binaryOp BitOr int int" => (refine r_or ?_; intro _ _)
  trivial

theorem lines_T5_0 : True := by
  k_with "call ref" => (k_dflt (refine' r_call (draw_code ?zC ?zn (St.bring2 ?zS ?zs1 ?zs2) ?zD ?zk ?_); (case zC => assumption); (case zD => assumption); (case zn => first | (refine up1 (by assumption) ?_; exact rfl) | omega); (case zS => assumption); (case zs1 => k_extra "my sel"); (case zs2 => k_extra "my sel"); (case zk => decide); k_whole); k_extra "my swap"; k_extra "my swapD"; intro _ _ _ _ _ _ _ _ _ _; dsimp only [CallBack])
  k_with "eval Call" => ((with_reducible show wpAny _ _ (eval (PySem.Expr.Call (PySem.Expr.Name (PySem.Str.ofString "_law_draw") _) _ _ _) _) _ _ _); k_dflt (refine' r_draw ?zhe ?zC ?zn ?zS ?zv ?zk1 ?zx1 ?zx2 ?zs1 ?zs2 ?zD ?zk ?_; (case zhe => assumption); (case zC => assumption); (case zD => assumption); (case zn => first | (refine up1 (by assumption) ?_; exact rfl) | omega); (case zS => assumption); (case zv => first | exact rfl | assumption); (case zk1 => exact rfl); (case zx1 => exact rfl); (case zx2 => exact rfl); (case zs1 => k_extra "my sel"); (case zs2 => k_extra "my sel"); (case zk => decide); k_whole); k_extra "my swap"; k_extra "my swapD"; intro _ _ _ _ _ _ _ _ _ _ _ _)
  k_with "call ref" => (k_dflt (refine' r_make (fI := 156) ?zC ?zS ?zhm ?zhi ?zhf ?_; (case zC => assumption); (case zS => assumption); (case zhm => k_is); (case zhi => k_is); (case zhf => k_is); k_whole); k_extra "my swap"; intro _ _ _ _ _ _; refine' linit_code ?zC ?zn ?zS ?_; (case zC => assumption); (case zn => first | (refine up1 (by assumption) ?_; exact rfl) | omega); (case zS => assumption); (rename St _ _ _ _ _ => zzS; clear zzS); (rename Fx _ _ _ _ _ _ => zzC; clear zzC); intro _ _ _ _ _ _ _ _ _; dsimp only [InitBack, CallBack])
  k_with "eval Call Attribute" => (refine foldQ ?_; intro zzq zzh; refine PyProof.Rows.MethodCall_ ?_)
  trivial
noncomputable abbrev BK (w : World) := bytesKind PySem.Challenge.rw_og0239_01.row.prog w
inductive LJ (w : World) (d c : Addr) (l : List (Addr × Obj)) (mo : Int) (B : Nat) (m : Str → Option Value) (l' : List (Addr × Obj)) : Prop
  | mk (od oc : Obj) (x dx : Addr) (lod : Obj) (r : Addr) (us : List Value) (k : Nat) (kn : Addr) (ok : Obj) (ka : Addr) (ks : List Value) (kk : Nat) (xs : List (List UInt8 × List UInt8)) (kv : _) (T : List (Addr × Obj)) (tm : Tok)
    (q1 : m (Str.ofString "deck") = some (.ref d)) (q2 : m (Str.ofString "links") = some (.ref x)) (q3 : m (Str.ofString "known") = some (.ref ka)) (q4 : m (Str.ofString "most") = some (.int mo tm))
    (hD : Deck PySem.Challenge.rw_og0239_01.row.prog w od oc c) (ho : LRec lod r kn) (hd : DH (tupleKind (BK w)) ok kv) (hs : Stk T xs us) (hp : Stk T xs ks) (hv : Nums (prog := PySem.Challenge.rw_og0239_01.row.prog) (w := w) T xs kv) (hB : xs.length ≤ B) (hT : l.Sublist T)
    (e : l' = (d, od) :: (c, oc) :: (x, instObj 180 dx) :: (dx, lod) :: (r, W.listOf us.toArray k) :: (kn, ok) :: (ka, W.listOf ks.toArray kk) :: T) : LJ w d c l mo B m l'
/-- behind a pair is known -/
inductive LM (d : Addr) (od : Obj) (c : Addr) (oc : Obj) (x dx : Addr) (lod : Obj) (r : Addr) (us : List Value) (k : Nat) (kn : Addr) (ok : Obj) (ka : Addr) (pd : Addr) (ty : Obj) (T : List (Addr × Obj)) (mo : Int) (tm : Tok) (xs' : List (List UInt8 × List UInt8)) (m : Str → Option Value) (l' : List (Addr × Obj)) : Prop
  | mk (ks : List Value) (kk : Nat) (q1 : m (Str.ofString "deck") = some (.ref d)) (q2 : m (Str.ofString "links") = some (.ref x)) (q3 : m (Str.ofString "known") = some (.ref ka)) (q4 : m (Str.ofString "most") = some (.int mo tm)) (q5 : m (Str.ofString "pair") = some (.ref pd))
    (hp : Stk ((pd, ty) :: T) xs' ks) (e : l' = (d, od) :: (c, oc) :: (x, instObj 180 dx) :: (dx, lod) :: (r, W.listOf us.toArray k) :: (kn, ok) :: (ka, W.listOf ks.toArray kk) :: (pd, ty) :: T) : LM d od c oc x dx lod r us k kn ok ka pd ty T mo tm xs' m l'
/-- the pair asked for by its number -/
inductive LN (d : Addr) (od : Obj) (c : Addr) (oc : Obj) (x dx : Addr) (lod : Obj) (r : Addr) (us : List Value) (k : Nat) (kn : Addr) (ok : Obj) (ka : Addr) (ks : List Value) (kk : Nat) (T : List (Addr × Obj)) (mo : Int) (tm : Tok) (i : Nat) (ti : Tok) (wa : List (List UInt8)) (m : Str → Option Value) (l' : List (Addr × Obj)) : Prop
  | mk (pp : Addr) (T' : List (Addr × Obj)) (q1 : m (Str.ofString "deck") = some (.ref d)) (q2 : m (Str.ofString "links") = some (.ref x)) (q3 : m (Str.ofString "known") = some (.ref ka)) (q4 : m (Str.ofString "most") = some (.int mo tm)) (q5 : m (Str.ofString "pair") = some (.ref pp))
    (q6 : m (Str.ofString "number") = some (.int (i : Int) ti)) (hsub : T.Sublist T') (ht : TupIn Bt T' wa (.ref pp)) (e : l' = (d, od) :: (c, oc) :: (x, instObj 180 dx) :: (dx, lod) :: (r, W.listOf us.toArray k) :: (kn, ok) :: (ka, W.listOf ks.toArray kk) :: T') :
    LN d od c oc x dx lod r us k kn ok ka ks kk T mo tm i ti wa m l'
/-- behind the number due -/
inductive LP (d x ka : Addr) (mo : Int) (tm : Tok) (pd : Addr) (N : Int) (l0 : List (Addr × Obj)) (m : Str → Option Value) (l' : List (Addr × Obj)) : Prop
  | mk (tk : Tok) (q1 : m (Str.ofString "deck") = some (.ref d)) (q2 : m (Str.ofString "links") = some (.ref x)) (q3 : m (Str.ofString "known") = some (.ref ka)) (q4 : m (Str.ofString "most") = some (.int mo tm)) (q5 : m (Str.ofString "pair") = some (.ref pd)) (q6 : m (Str.ofString "due") = some (.int N tk)) (e : l' = l0) : LP d x ka mo tm pd N l0 m l'
theorem mem2 {xs : List (List UInt8 × List UInt8)} {a b : List UInt8} : [a, b] ∈ xs.map (fun p => [p.1, p.2]) ↔ (a, b) ∈ xs := by
  rw [List.mem_map]
  constructor
  · rintro ⟨p, hp, e⟩
    simp only [List.cons.injEq, and_true] at e
    rwa [show p = (a, b) from Prod.ext e.1 e.2] at hp
  · exact fun h => ⟨_, h, rfl⟩
theorem pairIs {g h : Heap} {L : Addr} {m : Str → Option Value} {l : List (Addr × Obj)} (S : St g L h m l) {pd : Addr} {a b : List UInt8} {t u : Tok} (hm : (pd, tupO [.bytes a.toArray t, .bytes b.toArray u]) ∈ l) : (tupE bytesE).is h [a, b] (.ref pd) :=
  TupIn.is bt_is S ⟨pd, _, rfl, hm, .cons ⟨_, rfl⟩ (.cons ⟨_, rfl⟩ .nil)⟩
theorem idx_min {α : Type} [BEq α] [LawfulBEq α] (a : α) : ∀ (l : List α) (i : Nat), i < l.idxOf a → l[i]? ≠ some a := by
  intro l
  induction l with
  | nil => exact fun i h => absurd h (Nat.not_lt_zero _)
  | cons x r ih =>
    intro i h
    rw [List.idxOf_cons] at h
    cases e : (x == a) with
    | true => rw [e] at h; exact absurd h (Nat.not_lt_zero _)
    | false =>
      rw [e] at h
      cases i with
      | zero => exact fun q => absurd (beq_iff_eq.mpr (Option.some.inj q)) (by rw [e]; exact Bool.false_ne_true)
      | succ i => exact ih i (Nat.lt_of_succ_lt_succ h)
theorem map2_get {xs : List (List UInt8 × List UInt8)} {a b : List UInt8} {i : Nat} : (xs.map fun p => [p.1, p.2])[i]? = some [a, b] ↔ xs[i]? = some (a, b) := by
  rw [List.getElem?_map]
  cases xs[i]? with
  | none => simp
  | some p => simp [Prod.ext_iff]
theorem lines_T5_1 : True := by
  k_with "my stop" => (with_reducible show wpAny _ _ (call (Value.ref 163) _ _) _ _ _)
  k_with "call ref" => (k_dflt (refine' r_call (lword_code ?zC ?zn (St.bring3 ?zS ?zs1 ?zs2 ?zs3) ⟨?zho, ?zhsys⟩ ?zhs (Sub.mem ?zhT) ?zhz ?_); (case zC => assumption); (case zho => assumption); (case zhsys => assumption); (case zn => first | (refine up1 (by assumption) ?_; exact rfl) | omega); (case zS => assumption); (case zs1 => k_extra "my sel"); (case zs2 => k_extra "my sel"); (case zs3 => k_extra "my sel"); (case zhs => assumption); (case zhT => k_extra "my sub"); (case zhz => omega); k_whole); k_extra "my swap"; intro _ _ _ _; dsimp only [CallBack])
  k_with "call ref" => (k_dflt (refine' r_call (laddr_code ?zC ?zn (St.bring3 ?zS ?zs1 ?zs2 ?zs3) ⟨?zho, ?zhsys⟩ ?zhs (Sub.mem ?zhT) ?zhz ?_); (case zC => assumption); (case zho => assumption); (case zhsys => assumption); (case zn => first | (refine up1 (by assumption) ?_; exact rfl) | omega); (case zS => assumption); (case zs1 => k_extra "my sel"); (case zs2 => k_extra "my sel"); (case zs3 => k_extra "my sel"); (case zhs => assumption); (case zhT => k_extra "my sub"); (case zhz => omega); k_whole); k_extra "my swap"; intro _ _ _ _; dsimp only [CallBack])
  trivial
theorem links_code {w : World} {A : Around} {n : Nat} {g h : Heap} {env : Env} {L d c : Addr} {m : Str → Option Value} {l : List (Addr × Obj)} {s₀ : Shared} {t : Nat} {od oc : Obj} {R : Result → Shared → Prop}
    (C : Fx (Mine.hd.heap_39 w.params) A n g env L) (hn : n ≤ 40) (S : St g L h m ((d, od) :: (c, oc) :: l)) (D : Deck PySem.Challenge.rw_og0239_01.row.prog w od oc c)
    (hR : ∀ h' t' od' oc', Deck PySem.Challenge.rw_og0239_01.row.prog w od' oc' c → St g L h' m ((d, od') :: (c, oc') :: l) → R (.ok (.ret (.bool true))) (sg s₀ h' t')) :
    codeAny (model PySem.Challenge.rw_og0239_01.row.prog w) A (.call (.ref 209) ⟨[.ref d], []⟩) R (sg s₀ h t) := by
  revert C; k_fill; intro C
  refine' enter [Str.ofString "deck"] ?C ?S ?k6 ?k7 ?kn ?k9 ?kB ?kD ?_ ?c2 ?c3 ?c4 ?c5
  k_extra "my entered"
  rename_i g' L' h' t' env' _ he st C' S' _ _
  k_extra "my goFor"
  rename_i x0 dx1 h2q t3q rr4 kn5 h6q t7q od8 ok9 ho10 hemp11 d12 h13q t14q tk15q t16q mo tr18q h19q t20q od21 oc22 m0 m1 hD25 d26q h27q t28q h29q h30q t31q h32q t33q h34q t35q S _ _
  refine' r_for ?he ?hk ?hx ?hs g' ?_
  (case he => assumption)
  (case hk => exact rfl)
  (case hx => exact rfl)
  (case hs => exact fun _ => rfl)
  k_extra "my go"
  rename_i _ _ r2 _ _ _ od2 oc2 v0 v1 hD2 _ _ _ _ _ _ hr S
  have S := S.subS (l' := (d, od2) :: (c, oc2) :: (x0, instObj 180 dx1) :: (dx1, od8) :: (rr4, W.listOf [].toArray 0) :: (kn5, ok9) :: (d12, W.listOf [].toArray 0) :: l) (by k_extra "my sub")
  refine' iter_range (fun i m l' => LJ w d c l mo i m l') (by assumption) C'.hnd hr ?hk S ?hj ?turn ?done
  case hk => omega
  case hj => exact ⟨_, _, _, _, _, _, [], _, _, _, _, [], _, [], [], _, _, rfl, rfl, rfl, rfl, hD2, ho10, hemp11.dh, .nil, .nil, ⟨rfl, fun i x h => by cases h⟩, Nat.le_refl _, List.Sublist.refl _, rfl⟩
  case turn =>
--<1
    · skip
      clear S ho10 hemp11 hD2 hr
      rintro i v m₁ l₁ h₁ t₁ I o₁ hi ⟨ti, rfl⟩ ⟨od, oc, x, dx, lod, r, us, k, kn, ok, ka, ks, kk, xs, kv, T, tm, q1, q2, q3, q4, hD, ho, hd, hs, hp, hv, hB, hT, rfl⟩ S
      k_extra "my fold"
      obtain ⟨hoR, hsys⟩ := ho
      have hl1 := hs.length
      have hl2 := hp.length
      k_extra "my goIf"
      rename_i pa tka _ _ _ _ _ _ _ _ od3 oc3 _ _ hD3 _ _ pb tkb pd _ _ _ _ S _ _
      refine cutS (MidJ s₀ g' L' I o₁ (LM d od3 c oc3 x dx lod r us k kn ok ka pd (tupO [.bytes pa.toArray tka, .bytes pb.toArray tkb]) T mo tm (if (pa, pb) ∈ xs ∨ mo ≤ xs.length then xs else xs ++ [(pa, pb)]))) ?_ ?_
      · k_extra "my go"
        refine r_notInP (tupE bytesE) C' (up1 hn rfl) (by decide) (x := [pa, pb]) S (by k_mem) (Stk.are S (Sub.mem (l' := T) (by k_extra "my sub")) hp) (pairIs S (by k_mem)) (fun hm => ?_) (fun hm => ?_)
        · replace hm := mem2.mp hm
          k_extra "my go"
          refine' mid_S _ S ?sub ⟨ks, kk, q1, q2, q3, q4, rfl, ?st, rfl⟩
          case sub => k_extra "my sub"
          case st => rw [if_pos (.inl hm)]; exact hp.mono fun _ => .tail _
        · replace hm := fun q => hm (mem2.mpr q)
          k_extra "my go"
          · rename_i c1 _ _ k2 S
            refine' mid_S _ S ?sub ⟨_, k2, q1, q2, q3, q4, rfl, ?st, rfl⟩
            case sub => k_extra "my sub"
            case st => rw [if_neg (by simp only [not_or]; exact ⟨hm, by omega⟩)]; exact hp.push (tp := pd) (.head _)
          · rename_i c1
            refine' mid_S _ S ?sub ⟨ks, kk, q1, q2, q3, q4, rfl, ?st, rfl⟩
            case sub => k_extra "my sub"
            case st => rw [if_pos (.inr (by omega))]; exact hp.mono fun _ => .tail _
      · clear S hp hl2 q1 q2 q3 q4
        rintro s' ⟨h, t, m, l', rfl, S, ⟨ks, kk, q1, q2, q3, q4, q5, hp, rfl⟩⟩
        generalize hxs : (if (pa, pb) ∈ xs ∨ mo ≤ (xs.length : Int) then xs else xs ++ [(pa, pb)]) = xs' at hp
        have hl3 := hp.length
        have hlen : xs'.length ≤ xs.length + 1 := by rw [← hxs]; split <;> simp
        k_extra "my unfold"
        walk1
        refine cutS (MidJ s₀ g' L' I o₁ (LP d x ka mo tm pd (if (pa, pb) ∈ xs' then (xs'.idxOf (pa, pb) : Int) + 1 else 0) ((d, od3) :: (c, oc3) :: (x, instObj 180 dx) :: (dx, lod) :: (r, W.listOf us.toArray k) :: (kn, ok) :: (ka, W.listOf ks.toArray kk) :: (pd, tupO [.bytes pa.toArray tka, .bytes pb.toArray tkb]) :: T))) ?_ ?_
        rotate_left
        · clear S q1 q2 q3 q4 q5
          rintro s' ⟨h, t, m, l', rfl, S, ⟨tkd, q1, q2, q3, q4, q5, q6, rfl⟩⟩
          k_extra "my go"
          rename St _ _ _ _ _ => S
          refine r_call (lnum_code (l := [(I, o₁), (d, od3), (c, oc3), (ka, W.listOf ks.toArray kk), (pd, tupO [.bytes pa.toArray tka, .bytes pb.toArray tkb])]) (T := T) C' (up1 hn rfl)
            (S.subS (l' := (x, instObj 180 dx) :: (dx, lod) :: (r, W.listOf us.toArray k) :: (kn, ok) :: (I, o₁) :: (d, od3) :: (c, oc3) :: (ka, W.listOf ks.toArray kk) :: (pd, tupO [.bytes pa.toArray tka, .bytes pb.toArray tkb]) :: T) (by k_extra "my sub")) ⟨hoR, hsys⟩ hd hs hv (by omega) ?_)
          clear S
          intro h t kr' ok' us' kv' T' xs2 tk2 N hsub exs eN hd' hs' hv' S
          rw [hxs] at exs
          subst exs
          subst eN
          dsimp only [CallBack]
          dsimp only [List.cons_append, List.nil_append] at S
          k_extra "my go"
          refine' turn_S _ S ?sub ⟨od3, oc3, x, dx, lod, r, us', kr', kn, ok', ka, ks, kk, xs2, kv', (pd, tupO [.bytes pa.toArray tka, .bytes pb.toArray tkb]) :: T', tm, q1, q2, q3, q4, hD3, ⟨hoR, hsys⟩, hd', hs'.mono fun _ => .tail _, hp.mono ?mo, hv'.mono fun _ => .tail _, by omega, (hT.trans hsub).cons _, rfl⟩
          case sub => k_extra "my sub"
          case mo =>
            intro p hp
            rcases List.mem_cons.mp hp with rfl | hp
            · exact .head _
            · exact .tail _ (hsub.subset hp)
        k_extra "my go"
        refine r_inP (tupE bytesE) C' (up1 hn rfl) (by decide) (x := [pa, pb]) S (by k_mem) (Stk.are S (Sub.mem (l' := (pd, tupO [.bytes pa.toArray tka, .bytes pb.toArray tkb]) :: T) (by k_extra "my sub")) hp) (pairIs S (by k_mem)) (fun hm => ?_) (fun hm => ?_)
        · replace hm := mem2.mp hm
          k_extra "my go"
          refine r_index (tupE bytesE) C' (up1 hn rfl) (by decide) (x := [pa, pb]) (j := xs'.idxOf (pa, pb)) S (by k_mem) (Stk.are S (Sub.mem (l' := (pd, tupO [.bytes pa.toArray tka, .bytes pb.toArray tkb]) :: T) (by k_extra "my sub")) hp) (pairIs S (by k_mem)) ?_ ?_ ?_ ?_
          · exact map2_get.mpr (by rw [List.getElem?_eq_getElem (List.idxOf_lt_length_of_mem hm), List.getElem_idxOf])
          · exact fun i hi e => idx_min _ _ i hi (map2_get.mp e)
          · simp; omega
          intro tk t
          k_extra "my go"
          rename St _ _ _ _ _ => S
          refine' mid_S _ S ?sub ⟨_, q1, q2, q3, q4, q5, ?q6, rfl⟩
          case sub => k_extra "my sub"
          case q6 => rw [if_pos hm]; rfl
        · replace hm := fun q => hm (mem2.mpr q)
          k_extra "my go"
          rename St _ _ _ _ _ => S
          refine' mid_S _ S ?sub ⟨_, q1, q2, q3, q4, q5, ?q6, rfl⟩
          case sub => k_extra "my sub"
          case q6 => rw [if_neg hm]; rfl
--1>
  case done =>
    clear S ho10 hemp11 hD2 hr
    rintro h t m l' S ⟨od, oc, x, dx, lod, r, us, k, kn, ok, ka, ks, kk, xs, kv, T, tm, q1, q2, q3, q4, hD, ho, hd, hs, hp, hv, hB, hT, rfl⟩
    k_extra "my goFor"
    refine' r_for ?he ?hk ?hx ?hs g' ?_
    (case he => assumption)
    (case hk => exact rfl)
    (case hx => exact rfl)
    (case hs => exact fun _ => rfl)
    k_extra "my go"
    rename IsRange _ _ _ _ _ _ _ _ => hr
    rename St _ _ _ _ _ => S
    refine' iter_range (fun i m l' => LJ w d c l mo r2.toNat m l') (by assumption) C'.hnd hr ?hk S ?hj ?turn ?done
    case hk => decide
    case hj => exact ⟨od, oc, x, dx, lod, r, us, k, kn, ok, ka, ks, kk, xs, kv, T, tm, q1, q2, q3, q4, hD, ho, hd, hs, hp, hv, hB, hT, rfl⟩
    case turn =>
      clear S hd hv hp hs hT q1 q2 q3 q4 hD ho hr hB
      rintro i v m₁ l₁ h₁ t₁ I o₁ hi ⟨ti, rfl⟩ ⟨od, oc, x, dx, lod, r, us, k, kn, ok, ka, ks, kk, xs, kv, T, tm, q1, q2, q3, q4, hD, ⟨ho, hsys⟩, hd, hs, hp, hv, hB, hT, rfl⟩ S
      k_extra "my fold"
      have hl1 := hs.length
      have hl2 := hp.length
      walk1
      refine cutS (MidJ s₀ g' L' I o₁ (LN d od c oc x dx lod r us k kn ok ka ks kk T mo tm i ti [wordOf xs i, addrOf xs i])) ?_ ?_
      · k_extra "my go"
        · rename St _ _ _ _ _ => S
          rename 1 ≤ (i : Int) => c1
          rename (i : Int) ≤ _ => c2
          obtain ⟨p, hxp⟩ : ∃ p, xs[((i : Int) - 1).toNat]? = some p := ⟨xs[((i : Int) - 1).toNat]'(by omega), by simp⟩
          obtain ⟨v, hv2, a, vs, rfl, hm, hpr⟩ := Stk.right hp _ hxp
          refine r_itemL (v := .ref a) S (by k_mem) (by omega) (by omega) hv2 ?_ rfl
          k_extra "my go"
          rename St _ _ _ _ _ => S
          have e : wordOf xs i = p.1 ∧ addrOf xs i = p.2 := by
            constructor
            · unfold wordOf; rw [if_pos ⟨c1, by omega⟩, hxp]; rfl
            · unfold addrOf; rw [if_pos ⟨c1, by omega⟩, hxp]; rfl
          refine' mid_S _ S ?sub ⟨a, T, q1, q2, q3, q4, rfl, rfl, .refl _, ⟨a, vs, rfl, hm, ?pr⟩, rfl⟩
          case sub => k_extra "my sub"
          case pr => rw [e.1, e.2]; exact hpr
        · rename_i c2 tka _ tkb _ pd _ _ _ _ S
          have e : wordOf xs i = [] ∧ addrOf xs i = [] := by
            constructor
            · unfold wordOf; rw [if_neg (by omega)]
            · unfold addrOf; rw [if_neg (by omega)]
          refine' mid_S _ S ?sub ⟨pd, (pd, tupO [.bytes #[] tka, .bytes #[] tkb]) :: T, q1, q2, q3, q4, rfl, rfl, (List.Sublist.refl _).cons _, ⟨pd, _, rfl, .head _, ?pr⟩, rfl⟩
          case sub => k_extra "my sub"
          case pr => rw [e.1, e.2]; exact .cons ⟨_, rfl⟩ (.cons ⟨_, rfl⟩ .nil)
        · rename_i c2 tka _ tkb _ pd _ _ _ _ S
          have e : wordOf xs i = [] ∧ addrOf xs i = [] := by
            constructor
            · unfold wordOf; rw [if_neg (by omega)]
            · unfold addrOf; rw [if_neg (by omega)]
          refine' mid_S _ S ?sub ⟨pd, (pd, tupO [.bytes #[] tka, .bytes #[] tkb]) :: T, q1, q2, q3, q4, rfl, rfl, (List.Sublist.refl _).cons _, ⟨pd, _, rfl, .head _, ?pr⟩, rfl⟩
          case sub => k_extra "my sub"
          case pr => rw [e.1, e.2]; exact .cons ⟨_, rfl⟩ (.cons ⟨_, rfl⟩ .nil)
      · rintro s' ⟨h, t, m, l', rfl, S, ⟨pp, T', q1, q2, q3, q4, q5, q6, hsub, ⟨pa, vs, e, hm, hpr⟩, rfl⟩⟩
        injection e with e
        subst e
        have hs := hs.mono (T' := T') fun p hp => hsub.subset hp
        k_extra "my go"
        rename St _ _ _ _ _ => S
        refine r_neT bytesE C' (up1 hn rfl) (by decide) (xs := [wordOf xs i, addrOf xs i]) (ys := [wordOf xs i, addrOf xs i]) ⟨_, S.get (by k_mem), rfl, 0, rfl⟩ ⟨_, S.get (Sub.mem (l' := T') (by k_extra "my sub") _ hm), rfl, 0, rfl⟩ (.cons (bt_refl _ _) (.cons (bt_refl _ _) .nil)) hpr ?_
        rw [decide_eq_true rfl]
        k_extra "my go"
        refine' turn_S _ S ?sub ⟨od, oc, x, dx, lod, r, us, k, kn, ok, ka, ks, kk, xs, kv, T', tm, q1, q2, q3, q4, hD, ⟨ho, hsys⟩, hd, hs, hp.mono fun p hp => hsub.subset hp, hv.mono fun p hp => hsub.subset hp, hB, hT.trans hsub, rfl⟩
        case sub => k_extra "my sub"
    case done =>
      clear S hd hv hp hs hT q1 q2 q3 q4 hD ho hr hB
      rintro h t m l' S ⟨od, oc, x, dx, lod, r, us, k, kn, ok, ka, ks, kk, xs, kv, T, tm, q1, q2, q3, q4, hD, ho, hd, hs, hp, hv, hB, hT, rfl⟩
      k_extra "my go"
      rename St _ _ _ _ _ => S
      exact hR _ _ _ _ hD (S.subl ((((((hT.cons _).cons _).cons _).cons _).cons _).cons_cons _ |>.cons_cons _))

end
section
theorem lines_T6 : True := by
  k_with_none
  k_with "subscriptTail" => ((fail_if_success (with_reducible show wpAny _ _ (subscriptTail (PySem.Expr.Name _ _) _ _ _) _ _ _)); k_dflt (refine kba_turn (value' := PySem.Expr.Name (PySem.Str.ofString "_") ⟨0, 0, 0, 0⟩) (fun _ => rfl) ?_))
  k_with "my spot" => first | exact Spot.head | (refine' Spot.tail ?zspt; (case zspt => k_extra "my spot"))
  k_with "my swap" => ((try (rename St _ _ _ _ _ => so; clear so)))
  k_with "my subl" => first | exact List.Sublist.refl _ | (refine List.Sublist.cons_cons _ ?_; k_extra "my subl") | (refine List.Sublist.cons _ ?_; k_extra "my subl")
  k_with "my dec" => first | assumption | decide | omega | ((simp only [decide_eq_true_eq, decide_eq_false_iff_not, beq_iff_eq, bne_iff_ne, ne_eq, Bool.not_eq_true, Bool.not_eq_false, Bool.not_eq_true', Bool.not_eq_false', beq_eq_false_iff_ne, bne_eq_false_iff_eq]); omega) | (simp_all; done)
  k_with "eval Name" => (k_dflt (first
    | (refine' r_local ?zhe ?zS ?zv ?zk ?zx ?zd ?_; (case zhe => assumption); (case zS => assumption); (case zv => first | exact rfl | assumption); (case zk => exact rfl); (case zx => exact rfl); (case zd => decide); k_whole)
    | (refine' r_global ?zhe ?zC ?zS ?ze ?zk ?zx ?zd ?_; (case zhe => assumption); (case zC => assumption); (case zS => assumption); (case ze => k_is); (case zk => exact rfl); (case zx => exact rfl); (case zd => decide); k_whole)
    | (refine' r_builtin ?zhe ?zC ?zS ?ze ?zv ?zn ?zk ?zx ?zd ?_; (case zhe => assumption); (case zC => assumption); (case zS => assumption); (case ze => k_is); (case zv => boot_by_name); (case zn => decide); (case zk => exact rfl); (case zx => exact rfl); (case zd => decide); k_whole)))
  k_with "storeName" => (k_dflt (refine' r_store ?zhe ?zS ?zk ?zx ?_; (case zhe => assumption); (case zS => assumption); (case zk => exact rfl); (case zx => exact rfl); k_whole); k_extra "my swap"; intro _ _ _)
  k_with "eval Constant int" => (refine r_cint ?_; intro _ _)
  k_with "eval Constant str" => (refine r_cstr ?_; intro _ _)
  k_with "eval Constant bytes" => (refine r_cbytes ?_; intro _ _)
  k_with "eval Constant bool" => (refine r_cbool ?_)
  k_with "eval Constant none" => (refine r_cnone ?_)
  k_with "binaryOp Add int int" => (refine r_add ?_; intro _ _)
  k_with "binaryOp Sub int int" => (refine r_sub ?_; intro _ _)
  k_with "binaryOp Mult int int" => (refine r_mul ?za ?_; (case za => mul_fits); intro _ _)
  k_with "binaryOp Mod int int" => (refine r_mod ?za ?_; (case za => first | decide | omega | assumption); intro _ _)
  k_with "binaryOp FloorDiv int int" => (refine r_fdiv ?za ?zb ?_; (case za => first | decide | omega); (case zb => first | decide | omega); intro _ _)
  k_with "compareOp Eq int int" => (refine r_eq ?_)
  k_with "compareOp NotEq int int" => (refine r_ne ?_)
  k_with "compareOp Lt int int" => (refine r_lt ?_)
  k_with "compareOp LtE int int" => (refine r_le ?_)
  k_with "compareOp Gt int int" => (refine r_gt ?_)
  k_with "compareOp GtE int int" => (refine r_ge ?_)
  k_with "unaryOp USub int" => (refine r_neg ?_; intro _ _)
  k_with "newTuple" => (refine' r_tuple ?zS ?zz ?_; (case zS => assumption); (case zz => exact Nat.le_of_ble_eq_true rfl); k_extra "my swap"; intro _ _ _ _)
  k_with "newList" => (refine' r_list ?zS ?zz ?_; (case zS => assumption); (case zz => exact Nat.le_of_ble_eq_true rfl); k_extra "my swap"; intro _ _ _ _)
  k_with "ite" => first | (refine PySem.W.ite_pos ?za ?_; (case za => k_extra "my dec")) | (refine PySem.W.ite_neg ?za ?_; (case za => k_extra "my dec")) | (refine split_dec ?_ ?_ <;> intro _) | (refine split_bool ?_ ?_ <;> intro _)
  k_with "my entered" => ((case C => assumption); (case S => assumption); (case k6 => k_is); (case k7 => k_is); (case kn => first | (refine up1 (by assumption) ?_; exact rfl) | omega); (case k9 => first | exact BindsTo.of_eq rfl | exact binds_K (Fx.inn (by assumption) (by assumption)) rfl (by k_is) rfl rfl rfl); (case kB => exact locs rfl); (case kD => decide); (case c2 => exact rfl); (case c3 => exact rfl); (case c4 => exact rfl); (case c5 => decide); k_extra "my swap"; intro _ _ _ _ _ _ _ _ _ _; (try dsimp only); k_extra "my fold")
  k_with "execs cons" => (refine wpAny_execs_cons ?_; (try k_extra "my fold"))
  k_with "execs nil" => refine wpAny_execs_nil ?_
  k_with "exec If" => refine wpAny_If ?_
  k_with "isTrue Compare" => refine wpAny_isTrue_Compare1 ?_
  k_with "exec Return some" => refine wpAny_Return_some ?_
  k_with "eval BinOp" => refine wpAny_BinOp ?_
  k_with "truthy bool" => refine wpAny_truthy_bool ?_
  k_with "getMethod ref" => (k_dflt (refine' r_lmeth ?zS ?zm ?zs ?zt ?_; (case zS => assumption); (case zm => k_mem); (case zs => first | exact PySem.F.slot_list_append | exact PySem.F.slot_list_pop | exact PySem.F.slot_list_index); (case zt => first | exact PySem.F.type_list_append | exact PySem.F.type_list_pop | exact PySem.F.type_list_index); k_whole))
  k_with "LeaveS" => ((try dsimp only); (refine' leaveS ?zS ?_; (case zS => assumption)); k_extra "my swap"; intro _; (try dsimp only [flowV]))
  k_with "exec Assign" => (k_dflt (first
    | (refine' r_assignN ?zhe ?zhs ?_; (case zhe => assumption); (case zhs => exact rfl); k_whole)
    | (refine' r_assignT ?zhe ?zhs ?zhw ?_; (case zhe => assumption); (case zhs => exact rfl); (case zhw => exact rfl); k_whole)
    | (refine' r_assignTS ?zhe ?zhs ?zhw ?_; (case zhe => assumption); (case zhs => exact rfl); (case zhw => exact rfl); k_whole)
    | (refine' plainObj_wpAny_Assign_Attribute ?_ ?zhs; (case zhs => exact rfl); k_whole)
    | (refine' wpAny_Assign_Subscript ?_ ?zhs; (case zhs => exact rfl); k_whole)))
  k_with "assign Tuple" => (k_dflt (refine' r_unpack ?zC ?zS ?zm ?zk1 ?zk2 ?_; (case zC => assumption); (case zS => assumption); (case zm => k_mem); (case zk1 => exact rfl); (case zk2 => exact rfl); k_whole); k_extra "my swap"; intro _ _; dsimp only [assignEach, List.map])
  k_with "assignInOrder" => first | refine assignInOrder_nil ?_ | refine assignInOrder_cons ?_
  k_with "assign Name" => refine assign_Name ?_
  k_with "unpackItems ref" => (k_dflt (refine' r_unpackItems ?zC ?zS ?zm ?zk1 ?_; (case zC => assumption); (case zS => assumption); (case zm => k_mem); (case zk1 => exact rfl); k_whole); k_extra "my swap"; intro _ _; dsimp only [List.reverse, List.reverseAux, List.map])
  k_with "bindName" => refine r_bindName ?_
  k_with "my sel" => first | exact Sel.head | (refine' Sel.tail ?zsel; (case zsel => k_extra "my sel"))
  k_with "my sub" => first
    | exact Sub.refl
    | (refine' Sub.take Sel.head ?zrest; (case zrest => k_extra "my sub"))
    | ((fail_if_success (refine' Sub.probe ?zpra ?zprm; (case zprm => k_mem))); refine' Sub.skip ?zrest; (case zrest => k_extra "my sub"))
    | (refine' Sub.take ?zsel ?zrest; (case zsel => k_extra "my sel"); (case zrest => k_extra "my sub"))
    | (refine' Sub.skip ?zrest; (case zrest => k_extra "my sub"))
  k_with "getAttr ref" => (k_dflt (refine' r_getR ?zS ?zX ?zh1 ?zh2 ?zho ?zhg ?zhh ?zha ?zhn ?zhl ?zhv ?_; (case zS => assumption); (case zX => assumption); (case zh1 => k_mem); (case zh2 => k_mem); (case zho => assumption); (case zhg => k_is); (case zhh => k_is); (case zha => k_is); (case zhn => k_is); (case zhl => exact rfl); (case zhv => exact rfl); k_whole); intro _)
  k_with "setAttr ref" => (k_dflt (refine' r_setR ?zS ?zX ?zh1 ?zU ?zho ?zhs ?zhp ?zht ?zhh ?zhz ?_; (case zS => assumption); (case zX => assumption); (case zh1 => k_mem); (case zU => k_extra "my spot"); (case zho => first | assumption | exact rec_nil); (case zhs => k_is); (case zhp => k_is); (case zht => k_is); (case zhh => k_is); (case zhz => exact Nat.le_of_ble_eq_true rfl); k_whole); k_extra "my swap"; intro _ _ _ _ _; (try (rename St _ _ _ _ _ => zzS; (try dsimp only at zzS); revert zzS; intro _)))
  k_with "getMethod ref" => (k_dflt (refine' r_methR ?zS ?zX ?zh1 ?zh2 ?zho ?zhg ?zhf ?zht ?zhl ?_; (case zS => assumption); (case zX => assumption); (case zh1 => k_mem); (case zh2 => k_mem); (case zho => assumption); (case zhg => k_is); (case zhf => k_is); (case zht => k_is); (case zhl => exact rfl); k_whole))
  k_with "call builtin:list.append" => (k_dflt (refine' r_appendL ?zS ?zU ?zz ?_; (case zS => assumption); (case zU => k_extra "my spot"); (case zz => omega); k_whole); k_extra "my swap"; intro _ _ _ _; (try (rename St _ _ _ _ _ => zzS; (try dsimp only at zzS); revert zzS; intro _)))
  k_with "exec Expr" => (k_dflt (refine' r_expr ?zhe ?zhi ?zhs ?_; (case zhe => assumption); (case zhi => exact rfl); (case zhs => exact rfl); k_whole))
  k_with "call builtin:len" => (k_dflt (refine' r_lenL ?zS ?zm ?zz ?_; (case zS => assumption); (case zm => k_mem); (case zz => (try simp only [List.length_append, List.length_cons, List.length_nil]); omega); k_whole); intro _ _)
  k_with "call builtin:list.pop" => (k_dflt ((with_reducible show wpAny _ _ (call (Value.builtin _) [Value.ref _, Value.int _ _]) _ _ _); refine' r_pop0L ?zS ?zU ?zne ?zz ?_; (case zS => assumption); (case zU => k_extra "my spot"); (case zne => simp; done); (case zz => (try simp only [List.length_append, List.length_cons, List.length_nil]); omega); k_whole); k_extra "my swap"; intro _ _ _ _ _; (try (rename St _ _ _ _ _ => zzS; (try dsimp only at zzS); revert zzS; intro _)))
  k_with "callWith ref" => (k_dflt (first
    | (refine' r_callWith ?zX ?zhk ?_; (case zX => exact Fx.X (by assumption)); (case zhk => k_is); k_whole)
    | (refine' r_callWith0 ?zC ?zS ?zhk ?_; (case zC => assumption); (case zS => assumption); (case zhk => k_is); k_whole)))
  k_with "And" => ((with_reducible show Frag.In _ _ ∧ _); k_dflt (refine' r_kin ?zC ?zS ?_; (case zC => assumption); (case zS => assumption)); try dsimp only [List.nil_append, List.cons_append])
  k_with "my swapD" => ((try (rename Deck _ _ _ _ _ => so; clear so)))
  k_with "call type:range" => (k_dflt (refine' r_rangeN ?zS ?zz ?_; (case zS => assumption); (case zz => omega); k_whole); k_extra "my swap"; intro _ _ _ _ _ _ _ _)
  k_with "subscriptTail" => (k_dflt (first
    | (refine' r_itemL ?zS ?zm ?za ?zb ?zx ?_ ?zhs; (case zS => assumption); (case zm => k_mem); (case za => decide); (case zb => decide); (case zx => exact rfl); (case zhs => exact rfl); k_whole)
    | (refine' r_itemT ?zS ?zm ?za ?zb ?zx ?_ ?zhs; (case zS => assumption); (case zm => k_mem); (case za => decide); (case zb => decide); (case zx => exact rfl); (case zhs => exact rfl); k_whole)
    | (refine' r_menuB ?zC ?zS ?zl ?zb ?za ?zc ?zd ?_ ?zhs; (case zC => assumption); (case zS => assumption); (case zl => k_is); (case zb => exact rfl); (case za => omega); (case zc => (simp only [List.length_cons, List.length_nil]); omega); (case zd => decide); (case zhs => exact rfl); k_whole; intro _ _)))
  k_with "binaryOp Add ref ref" => (k_dflt (refine' r_addL ?zS ?za ?zb ?zz ?_; (case zS => assumption); (case za => k_mem); (case zb => k_mem); (case zz => (try simp only [List.length_append, List.length_cons, List.length_nil]); omega); k_whole); k_extra "my swap"; intro _ _ _ _)
  k_with "call type:tuple" => (k_dflt (refine' r_tupleOf ?zS ?za ?zz ?_; (case zS => assumption); (case za => k_mem); (case zz => (try simp only [List.length_append, List.length_cons, List.length_nil]); omega); k_whole); k_extra "my swap"; intro _ _ _ _)
  k_with "my slice" => (k_dflt (refine' r_sliceL ?zS ?zm ?zpl ?zpu ?zhs ?zht ?zhz ?_; (case zS => assumption); (case zm => k_mem); (case zpl => first | exact .none | exact .int _ _); (case zpu => first | exact .none | exact .int _ _); (case zhs => exact rfl); (case zht => exact fun _ => rfl); (case zhz => (try simp only [List.length_append, List.length_cons, List.length_nil]); omega); k_whole); k_extra "my swap"; intro _ _ _ _)
  k_with "eval Dict nil nil" => (k_dflt (refine' r_newDict ?zC ?zS ?_; (case zC => assumption); (case zS => assumption); k_whole); k_extra "my swap"; intro _ _ _ _ _ _ _)
  k_with "my slice" => ((fail_if_success (with_reducible show wpAny _ _ (subscriptTail (PySem.Expr.Name _ _) _ _ _) _ _ _)); k_dflt (refine kba_turn (value' := PySem.Expr.Name (PySem.Str.ofString "_") ⟨0, 0, 0, 0⟩) (fun _ => rfl) ?_); k_extra "my slice")
  k_with "my stop" => first
    | (with_reducible show wpAny _ _ (subscriptTail _ _ (Value.ref _) (Value.ref _)) _ _ _)
    | (with_reducible show wpAny _ _ (setItem (Value.ref _) (Value.ref _) _) _ _ _)
    | (with_reducible show wpAny _ _ (call (Value.builtin "dict.pop") _) _ _ _)
    | (with_reducible show wpAny _ _ (call (Value.builtin "dict.get") _) _ _ _)
    | (with_reducible show wpAny _ _ (call (Value.builtin "list.index") _) _ _ _)
    | (with_reducible show wpAny _ _ (compareOp _ (Value.ref _) (Value.ref _)) _ _ _)
    | (with_reducible show wpAny _ _ (pyIter (Value.ref _)) _ _ _)
  k_with "my fold" => (refine foldQ ?_; intro _ _)
  k_with "my unfold" => first | ((rename ∀ (_ : Flow) (_ : Shared), _ → _ => hq; refine hq _ _ ?_; clear hq); (rename Flow → Shared → Prop => q; clear q); (try dsimp only)) | ((rename ∀ (_ : Value) (_ : Shared), _ → _ => hq; refine hq _ _ ?_; clear hq); (rename Value → Shared → Prop => q; clear q); (try dsimp only))
  k_with "my step" => first
    | ((with_reducible show wpAny _ _ (subscriptTail _ _ (Value.ref _) (Value.ref (Array.size _))) _ _ _); k_extra "my slice")
    | ((with_reducible show wpAny _ _ (exec _ _) (NextIs _) _ _); k_extra "my fold")
    | ((fail_if_success k_extra "my stop"); first | walk1 | (dsimp only; walk1) | k_extra "my unfold")
  k_with "my go" => repeat' k_extra "my step"
  k_with "my goIf" => repeat' ((fail_if_success (with_reducible show wpAny _ _ (exec (Stmt.If _ _ _ _) _) _ _ _)); k_extra "my step")
  k_with "my goFor" => repeat' ((fail_if_success (with_reducible show wpAny _ _ (exec (Stmt.For _ _ _ _ _) _) _ _ _)); k_extra "my step")
  k_with "binaryOp LShift int int" => (refine r_shl ?za ?zb ?zc ?_; (case za => omega); (case zb => omega); (case zc => omega); intro _ _)
  k_with "binaryOp BitOr int int" => (refine r_or ?_; intro _ _)
  trivial

theorem lines_T6_0 : True := by
  k_with "my mem" => first | k_mem | assumption | (refine List.Mem.tail _ ?ztl; (case ztl => k_extra "my mem"))
  k_with "getAttr ref" => (k_dflt (refine' r_getR ?zS ?zX ?zh1 ?zh2 ?zho ?zhg ?zhh ?zha ?zhn ?zhl ?zhv ?_; (case zS => assumption); (case zX => assumption); (case zh1 => k_extra "my mem"); (case zh2 => k_extra "my mem"); (case zho => assumption); (case zhg => k_is); (case zhh => k_is); (case zha => k_is); (case zhn => k_is); (case zhl => exact rfl); (case zhv => exact rfl); k_whole); intro _)
  k_with "getMethod ref" => (k_dflt (refine' r_methR ?zS ?zX ?zh1 ?zh2 ?zho ?zhg ?zhf ?zht ?zhl ?_; (case zS => assumption); (case zX => assumption); (case zh1 => k_extra "my mem"); (case zh2 => k_extra "my mem"); (case zho => assumption); (case zhg => k_is); (case zhf => k_is); (case zht => k_is); (case zhl => exact rfl); k_whole))
  k_with "compareOp Eq str str" => (refine r_eqsP (fun _ => ?_) (fun _ => ?_))
  k_with "compareOp NotEq str str" => (refine r_nesP (fun _ => ?_) (fun _ => ?_))
  k_with "compareOp In int ref" => (k_dflt (refine' r_inI (ns := [11, 14, 16, 17]) ?zS ?zha ?zhi ?_ ?_; (case zS => assumption); (case zha => k_mem); (case zhi => exact .cons _ _ (.cons _ _ (.cons _ _ (.cons _ _ .nil)))); k_whole) <;> intro _)
  k_with "getMethod ref" => (k_dflt (refine' r_dmeth (bk := siKind PySem.Challenge.rw_og0239_01.row.prog _) ?zS ?zm ?zH ?zs ?zt ?_; (case zS => assumption); (case zm => k_extra "my mem"); (case zH => assumption); (case zs => first | exact PySem.F.slot_dict_pop | exact PySem.F.slot_dict_get); (case zt => first | exact PySem.F.type_dict_pop | exact PySem.F.type_dict_get); k_whole))
  k_with "call type:list" => (k_dflt (refine' r_keysOf (knd := tupleKind (siKind PySem.Challenge.rw_og0239_01.row.prog _)) ?zC ?zS ?zm ?zH ?zsys ?zz ?_; (case zC => assumption); (case zS => assumption); (case zm => k_extra "my mem"); (case zH => assumption); (case zsys => assumption); (case zz => omega); k_whole); k_extra "my swap"; intro _ _ _ _ _)
  k_with "subscriptTail" => (k_dflt (refine' r_itemT ?zS ?zm ?za ?zb ?zx ?_ ?zhs; (case zS => assumption); (case zm => k_extra "my mem"); (case za => decide); (case zb => decide); (case zx => exact rfl); (case zhs => exact rfl); k_whole))
  trivial
noncomputable abbrev PG : Program := PySem.Challenge.rw_og0239_01.row.prog
noncomputable def PRec (o : Obj) (f b : Int) (ch : Addr) : Prop := (∃ tf tb, Rec o [(Str.ofString "fore", .int f tf), (Str.ofString "back", .int b tb), (Str.ofString "changes", .ref ch)]) ∧ (ch == sysModules) = false
theorem pinit_code {w : World} {A : Around} {n : Nat} {g h : Heap} {env : Env} {L x dx : Addr} {m : Str → Option Value} {l : List (Addr × Obj)} {s₀ : Shared} {t : Nat} {f b : Int} {tf tb : Tok} {R : Result → Shared → Prop}
    (C : Fx (Mine.hd.heap_39 w.params) A n g env L) (hn : n ≤ 50) (S : St g L h m ((x, instObj 138 dx) :: (dx, dictOf [] 0) :: l))
    (hR : ∀ ch h' t' od oc, PRec od f b ch → Emp oc → St g L h' m ((x, instObj 138 dx) :: (dx, od) :: (ch, oc) :: l) → R (.ok (.ret .none)) (sg s₀ h' t')) :
    codeAny (model PySem.Challenge.rw_og0239_01.row.prog w) A (.call (.ref 93) ⟨[.ref x, .int f tf, .int b tb], []⟩) R (sg s₀ h t) := by
  revert C; k_fill; intro C
  refine' enter [Str.ofString "self", Str.ofString "fore", Str.ofString "back"] ?C ?S ?k6 ?k7 ?kn ?k9 ?kB ?kD ?_ ?c2 ?c3 ?c4 ?c5
  k_extra "my entered"
  k_extra "my go"
  rename St _ _ _ _ _ => S
  refine' hR _ _ _ _ _ ⟨⟨_, _, ?ho⟩, ?hsys⟩ ?hemp (S.subS ?sub)
  case ho => assumption
  case hsys => assumption
  case hemp => assumption
  case sub => k_extra "my sub"
theorem pfirst_code {w : World} {A : Around} {n : Nat} {g h : Heap} {env : Env} {L x dx ka ch : Addr} {o : Obj} {m : Str → Option Value} {l : List (Addr × Obj)} {s₀ : Shared} {t : Nat} {f b nu : Int} {wo : Str} {R : Result → Shared → Prop}
    (C : Fx (Mine.hd.heap_39 w.params) A n g env L) (hn : n ≤ 54) (S : St g L h m l) (hx : (x, instObj 138 dx) ∈ l) (hdx : (dx, o) ∈ l) (ho : PRec o f b ch) (hka : KeyAt l wo nu ka) (hv : VK wo nu)
    (hR : ∀ h' t' v tk, v = lfirst wo nu f b → St g L h' m l → R (.ok (.ret (.int v tk))) (sg s₀ h' t')) :
    codeAny (model PySem.Challenge.rw_og0239_01.row.prog w) A (.call (.ref 100) ⟨[.ref x, .ref ka], []⟩) R (sg s₀ h t) := by
  revert C; k_fill; intro C
  obtain ⟨tw, tn, hka⟩ := hka
  obtain ⟨⟨tf, tb, ho⟩, hsys⟩ := ho
  refine' enter [Str.ofString "self", Str.ofString "key"] ?C ?S ?k6 ?k7 ?kn ?k9 ?kB ?kD ?_ ?c2 ?c3 ?c4 ?c5
  k_extra "my entered"
  rename_i g' L' h' t' env' _ he st C' S' _ _
  k_extra "my go"
  · rename wo = _ => e
    have hv := hv e
    rename St _ _ _ _ _ => S
    refine r_call (pal_code C' (up1 hn rfl) S hv.1 hv.2 ?_)
    clear S
    intro h t tk v ev S
    dsimp only [CallBack]
    k_extra "my go"
    rename St _ _ _ _ _ => S
    exact hR _ _ _ _ (by rw [ev]; unfold lfirst; rw [if_pos e]) S
  · rename wo ≠ _ => e
    rename wo = _ => e2
    rename nu ∈ _ => e3
    rename St _ _ _ _ _ => S
    refine hR _ _ _ _ ?_ (S.subS ?sub)
    · unfold lfirst; rw [if_neg e, if_pos ⟨e2, e3⟩]
    case sub => k_extra "my sub"
  · rename wo ≠ _ => e
    rename wo = _ => e2
    rename nu ∉ _ => e3
    rename St _ _ _ _ _ => S
    refine hR _ _ _ _ ?_ (S.subS ?sub)
    · unfold lfirst; rw [if_neg e, if_neg fun q => e3 q.2]
    case sub => k_extra "my sub"
  · rename wo ≠ sIndex => e
    rename wo ≠ sDyn => e2
    rename St _ _ _ _ _ => S
    refine hR _ _ _ _ ?_ S
    unfold lfirst; rw [if_neg e, if_neg fun q => e2 q.1]
theorem prgb_code {w : World} {A : Around} {n : Nat} {g h : Heap} {env : Env} {L x dx ka ch : Addr} {o oc : Obj} {xs : List (SK × Addr × Value)} {m : Str → Option Value} {l : List (Addr × Obj)} {s₀ : Shared} {t : Nat} {f b nu : Int} {wo : Str} {R : Result → Shared → Prop}
    (C : Fx (Mine.hd.heap_39 w.params) A n g env L) (hn : n ≤ 53) (S : St g L h m l) (hx : (x, instObj 138 dx) ∈ l) (hdx : (dx, o) ∈ l) (ho : PRec o f b ch) (hc : (ch, oc) ∈ l) (H : DH (tupleKind (siKind PG w)) oc xs) (hk : KeysL (siKind PG w) l xs) (hg : Good xs) (hka : KeyAt l wo nu ka) (hv : VK wo nu)
    (hR : ∀ h' t' v tk, v = valAt xs wo nu f b → St g L h' m l → R (.ok (.ret (.int v tk))) (sg s₀ h' t')) :
    codeAny (model PySem.Challenge.rw_og0239_01.row.prog w) A (.call (.ref 107) ⟨[.ref x, .ref ka], []⟩) R (sg s₀ h t) := by
  revert C; k_fill; intro C
  have ho1 := ho
  obtain ⟨⟨tf, tb, ho⟩, hsys⟩ := ho
  refine' enter [Str.ofString "self", Str.ofString "key"] ?C ?S ?k6 ?k7 ?kn ?k9 ?kB ?kD ?_ ?c2 ?c3 ?c4 ?c5
  k_extra "my entered"
  rename_i g' L' h' t' env' _ he st C' S' _ _
  k_extra "my go"
  rename St _ _ _ _ _ => S
  refine r_keyin C' (up1 hn rfl) S hc H hk hka hsys (fun t kb v hf => ?_) (fun t hf => ?_)
  · k_extra "my go"
    refine r_hget (v := v) (ka := kb) C' (up1 hn rfl) S hc H hk hka.tup hf ?_ rfl
    intro t
    obtain ⟨t2, e2⟩ := hg.val hf
    rw [e2]
    k_extra "my go"
    rename St _ _ _ _ _ => S
    exact hR _ _ _ _ (by unfold valAt; rw [lk_some hf]; rfl) S
  · k_extra "my go"
    rename St _ _ _ _ _ => S
    refine r_call (pfirst_code C' (up1 hn rfl) S hx hdx ho1 hka hv ?_)
    clear S
    intro h t v tk ev S
    dsimp only [CallBack]
    k_extra "my go"
    rename St _ _ _ _ _ => S
    exact hR _ _ _ _ (by rw [ev]; unfold valAt; rw [lk_none hf]; rfl) S
theorem pput_code {w : World} {A : Around} {n : Nat} {g h : Heap} {env : Env} {L x dx ka ch : Addr} {o oc : Obj} {xs : List (SK × Addr × Value)} {m : Str → Option Value} {l T : List (Addr × Obj)} {s₀ : Shared} {t : Nat} {f b nu i : Int} {ti : Tok} {wo : Str} {R : Result → Shared → Prop}
    (C : Fx (Mine.hd.heap_39 w.params) A n g env L) (hn : n ≤ 53) (S : St g L h m ((ch, oc) :: l)) (hx : (x, instObj 138 dx) ∈ l) (hdx : (dx, o) ∈ l) (ho : PRec o f b ch) (hT : ∀ p ∈ T, p ∈ l) (H : DH (tupleKind (siKind PG w)) oc xs) (hk : KeysL (siKind PG w) T xs) (hg : Good xs) (hz : xs.length ≤ 900) (hka : KeyAt T wo nu ka) (hv : VK wo nu)
    (hR : ∀ h' t' oc' xs', DH (tupleKind (siKind PG w)) oc' xs' → KeysL (siKind PG w) T xs' → Good xs' → xs'.length ≤ xs.length + 1 → (∀ w' n', valAt xs' w' n' f b = if w' = wo ∧ n' = nu then i else valAt xs w' n' f b) → St g L h' m ((ch, oc') :: l) → R (.ok (.ret .none)) (sg s₀ h' t')) :
    codeAny (model PySem.Challenge.rw_og0239_01.row.prog w) A (.call (.ref 114) ⟨[.ref x, .ref ka, .int i ti], []⟩) R (sg s₀ h t) := by
  revert C; k_fill; intro C
  have ho1 := ho
  obtain ⟨⟨tf, tb, ho⟩, hsys⟩ := ho
  have up : ∀ {o' : Obj}, ∀ p ∈ l, p ∈ (ch, o') :: l := fun p hp => .tail _ hp
  have upT : ∀ {o' : Obj}, ∀ p ∈ T, p ∈ (ch, o') :: l := fun p hp => .tail _ (hT p hp)
  refine' enter [Str.ofString "self", Str.ofString "key", Str.ofString "rgb"] ?C ?S ?k6 ?k7 ?kn ?k9 ?kB ?kD ?_ ?c2 ?c3 ?c4 ?c5
  k_extra "my entered"
  rename_i g' L' h' t' env' _ he st C' S' _ _
  k_extra "my go"
  rename St _ _ _ _ _ => S
  refine r_hset (gl := fun o => (ch, o) :: l) C' (up1 hn rfl) S .head H (hk.mono upT) (hka.mono upT).tup (by omega) ?_
  clear S
  intro h t oc1 H1 S
  have hk1 : KeysL (siKind PG w) T (storedH xs (kOf wo nu) ka (.int i ti)) := storedH_keysL hk hka.tup
  have hg1 : Good (storedH xs (kOf wo nu) ka (.int i ti)) := hg.stored hv ka i ti
  have hz1 := stored_len xs (kOf wo nu) ka (.int i ti)
  have hv1 := fun w' n' => val_stored xs wo w' nu n' f b ka i ti
  have hat : ∃ kb v, atKey (storedH xs (kOf wo nu) ka (.int i ti)) (kOf wo nu) = some (kb, v) := by
    have e := lk_stored xs (kOf wo nu) (kOf wo nu) ka (.int i ti)
    rw [if_pos rfl] at e
    cases q : atKey (storedH xs (kOf wo nu) ka (.int i ti)) (kOf wo nu) with
    | none => rw [lk_none q] at e; cases e
    | some p => exact ⟨p.1, p.2, rfl⟩
  obtain ⟨kb, v, hat⟩ := hat
  generalize storedH xs (kOf wo nu) ka (.int i ti) = xs1 at *
  clear H
  k_extra "my go"
  rename St _ _ _ _ _ => S
  refine r_call (pfirst_code C' (up1 hn rfl) S (up _ hx) (up _ hdx) ho1 (hka.mono upT) hv ?_)
  clear S
  intro h t v tk ev S
  dsimp only [CallBack]
  k_extra "my go"
  · rename (i == v) = true => e
    have e : i = v := by simpa using e
    rename St _ _ _ _ _ => S
    refine r_hpop (gl := fun o => (ch, o) :: l) C' (up1 hn rfl) S .head H1 (hk1.mono upT) (hka.mono upT).tup (by omega) hat ?_
    clear S
    intro h t oc2 H2 S
    k_extra "my go"
    rename St _ _ _ _ _ => S
    refine hR _ _ _ _ H2 (fun x hx => hk1 x (without_sub x hx)) (hg1.sub without_sub) (by have := without_len xs1 (kOf wo nu); omega) (fun w' n' => ?_) S
    rw [val_without, hv1]
    by_cases q : w' = wo ∧ n' = nu
    · rw [if_pos q, if_pos q, ← ev, e]
    · rw [if_neg q, if_neg q]
  · rename St _ _ _ _ _ => S
    exact hR _ _ _ _ H1 hk1 hg1 hz1 hv1 S
theorem pback_code {w : World} {A : Around} {n : Nat} {g h : Heap} {env : Env} {L x dx ka ch : Addr} {o oc : Obj} {xs : List (SK × Addr × Value)} {m : Str → Option Value} {l T : List (Addr × Obj)} {s₀ : Shared} {t : Nat} {f b nu : Int} {wo : Str} {R : Result → Shared → Prop}
    (C : Fx (Mine.hd.heap_39 w.params) A n g env L) (hn : n ≤ 53) (S : St g L h m ((ch, oc) :: l)) (hx : (x, instObj 138 dx) ∈ l) (hdx : (dx, o) ∈ l) (ho : PRec o f b ch) (hT : ∀ p ∈ T, p ∈ l) (H : DH (tupleKind (siKind PG w)) oc xs) (hk : KeysL (siKind PG w) T xs) (hg : Good xs) (hz : xs.length ≤ 900) (hka : KeyAt T wo nu ka)
    (hR : ∀ h' t' oc' xs', DH (tupleKind (siKind PG w)) oc' xs' → KeysL (siKind PG w) T xs' → Good xs' → xs'.length ≤ xs.length → (∀ w' n', valAt xs' w' n' f b = if w' = wo ∧ n' = nu then lfirst wo nu f b else valAt xs w' n' f b) → St g L h' m ((ch, oc') :: l) → R (.ok (.ret .none)) (sg s₀ h' t')) :
    codeAny (model PySem.Challenge.rw_og0239_01.row.prog w) A (.call (.ref 121) ⟨[.ref x, .ref ka], []⟩) R (sg s₀ h t) := by
  revert C; k_fill; intro C
  obtain ⟨⟨tf, tb, ho⟩, hsys⟩ := ho
  have up : ∀ {o' : Obj}, ∀ p ∈ l, p ∈ (ch, o') :: l := fun p hp => .tail _ hp
  have upT : ∀ {o' : Obj}, ∀ p ∈ T, p ∈ (ch, o') :: l := fun p hp => .tail _ (hT p hp)
  refine' enter [Str.ofString "self", Str.ofString "key"] ?C ?S ?k6 ?k7 ?kn ?k9 ?kB ?kD ?_ ?c2 ?c3 ?c4 ?c5
  k_extra "my entered"
  rename_i g' L' h' t' env' _ he st C' S' _ _
  k_extra "my go"
  rename St _ _ _ _ _ => S
  refine r_keyin C' (up1 hn rfl) S (.head _) H (hk.mono upT) (hka.mono upT) hsys (fun t kb v hat => ?_) (fun t hat => ?_)
  · k_extra "my go"
    rename St _ _ _ _ _ => S
    refine r_hpop (gl := fun o => (ch, o) :: l) C' (up1 hn rfl) S .head H (hk.mono upT) (hka.mono upT).tup (by omega) hat ?_
    clear S
    intro h t oc2 H2 S
    k_extra "my go"
    rename St _ _ _ _ _ => S
    exact hR _ _ _ _ H2 (fun x hx => hk x (without_sub x hx)) (hg.sub without_sub) (without_len xs (kOf wo nu)) (fun w' n' => val_without _ _ _ _ _ _ _) S
  · k_extra "my go"
    rename St _ _ _ _ _ => S
    refine hR _ _ _ _ H hk hg (Nat.le_refl _) (fun w' n' => ?_) S
    by_cases q : w' = wo ∧ n' = nu
    · rw [if_pos q, q.1, q.2]; unfold valAt; rw [lk_none hat]; rfl
    · rw [if_neg q]
noncomputable def colV (xs : List (SK × Addr × Value)) (c : Int) (bf : Bool) (f b : Int) : Int := if c ≥ 16777216 then c - 16777216 else if c ≥ 0 then valAt xs sIndex c f b else valAt xs sDyn (if bf = true then 10 else 11) f b
theorem colrgb_code {w : World} {A : Around} {n : Nat} {g h : Heap} {env : Env} {L x dx ch : Addr} {o oc : Obj} {xs : List (SK × Addr × Value)} {m : Str → Option Value} {l : List (Addr × Obj)} {s₀ : Shared} {t : Nat} {f b c : Int} {tc : Tok} {bf : Bool} {R : Result → Shared → Prop}
    (C : Fx (Mine.hd.heap_39 w.params) A n g env L) (hn : n ≤ 52) (S : St g L h m l) (hx : (x, instObj 138 dx) ∈ l) (hdx : (dx, o) ∈ l) (ho : PRec o f b ch) (hc : (ch, oc) ∈ l) (H : DH (tupleKind (siKind PG w)) oc xs) (hk : KeysL (siKind PG w) l xs) (hg : Good xs) (hv : 0 ≤ c → c < 16777216 → 16 ≤ c ∧ c < 256)
    (hR : ∀ h' t' v tk, v = colV xs c bf f b → St g L h' m l → R (.ok (.ret (.int v tk))) (sg s₀ h' t')) :
    codeAny (model PySem.Challenge.rw_og0239_01.row.prog w) A (.call (.ref 135) ⟨[.ref x, .int c tc, .bool bf], []⟩) R (sg s₀ h t) := by
  revert C; k_fill; intro C
  have ho1 := ho
  obtain ⟨⟨tf, tb, ho⟩, hsys⟩ := ho
  refine' enter [Str.ofString "self", Str.ofString "colour", Str.ofString "is_fore"] ?C ?S ?k6 ?k7 ?kn ?k9 ?kB ?kD ?_ ?c2 ?c3 ?c4 ?c5
  k_extra "my entered"
  rename_i g' L' h' t' env' _ he st C' S' _ _
  k_extra "my go"
  · rename c ≥ _ => e
    rename St _ _ _ _ _ => S
    exact hR _ _ _ _ (by unfold colV; rw [if_pos e]) S
  · rename ¬ c ≥ _ => e
    rename c ≥ 0 => e2
    rename_i S
    have hv := hv (by omega) (by omega)
    refine r_call (prgb_code C' (up1 hn rfl) S (.tail _ hx) (.tail _ hdx) ho1 (.tail _ hc) H (hk.mono fun p hp => .tail _ hp) hg ⟨_, _, .head _⟩ (fun _ => hv) ?_)
    clear S
    intro h t v tk ev S
    dsimp only [CallBack]
    k_extra "my go"
    rename St _ _ _ _ _ => S
    exact hR _ _ _ _ (by rw [ev]; unfold colV; rw [if_neg e, if_pos e2]) S.drop
  · rename ¬ c ≥ 16777216 => e
    rename ¬ c ≥ 0 => e2
    rename bf = true => e3
    rename_i S
    refine r_call (prgb_code C' (up1 hn rfl) S (.tail _ hx) (.tail _ hdx) ho1 (.tail _ hc) H (hk.mono fun p hp => .tail _ hp) hg ⟨_, _, .head _⟩ (fun q => absurd q (by decide)) ?_)
    clear S
    intro h t v tk ev S
    dsimp only [CallBack]
    k_extra "my go"
    rename St _ _ _ _ _ => S
    exact hR _ _ _ _ (by rw [ev]; unfold colV; rw [if_neg e, if_neg e2, if_pos e3]) S.drop
  · rename ¬ c ≥ 16777216 => e
    rename ¬ c ≥ 0 => e2
    rename bf = false => e3
    rename_i S
    refine r_call (prgb_code C' (up1 hn rfl) S (.tail _ hx) (.tail _ hdx) ho1 (.tail _ hc) H (hk.mono fun p hp => .tail _ hp) hg ⟨_, _, .head _⟩ (fun q => absurd q (by decide)) ?_)
    clear S
    intro h t v tk ev S
    dsimp only [CallBack]
    k_extra "my go"
    rename St _ _ _ _ _ => S
    exact hR _ _ _ _ (by rw [ev]; unfold colV; rw [if_neg e, if_neg e2, e3, if_neg (by decide)]; rfl) S.drop

end
section
theorem lines_T7 : True := by
  k_with_none
  k_with "subscriptTail" => ((fail_if_success (with_reducible show wpAny _ _ (subscriptTail (PySem.Expr.Name _ _) _ _ _) _ _ _)); k_dflt (refine kba_turn (value' := PySem.Expr.Name (PySem.Str.ofString "_") ⟨0, 0, 0, 0⟩) (fun _ => rfl) ?_))
  k_with "my spot" => first | exact Spot.head | (refine' Spot.tail ?zspt; (case zspt => k_extra "my spot"))
  k_with "my swap" => ((try (rename St _ _ _ _ _ => so; clear so)))
  k_with "my subl" => first | exact List.Sublist.refl _ | (refine List.Sublist.cons_cons _ ?_; k_extra "my subl") | (refine List.Sublist.cons _ ?_; k_extra "my subl")
  k_with "my dec" => first | assumption | decide | omega | ((simp only [decide_eq_true_eq, decide_eq_false_iff_not, beq_iff_eq, bne_iff_ne, ne_eq, Bool.not_eq_true, Bool.not_eq_false, Bool.not_eq_true', Bool.not_eq_false', beq_eq_false_iff_ne, bne_eq_false_iff_eq]); omega) | (simp_all; done)
  k_with "eval Name" => (k_dflt (first
    | (refine' r_local ?zhe ?zS ?zv ?zk ?zx ?zd ?_; (case zhe => assumption); (case zS => assumption); (case zv => first | exact rfl | assumption); (case zk => exact rfl); (case zx => exact rfl); (case zd => decide); k_whole)
    | (refine' r_global ?zhe ?zC ?zS ?ze ?zk ?zx ?zd ?_; (case zhe => assumption); (case zC => assumption); (case zS => assumption); (case ze => k_is); (case zk => exact rfl); (case zx => exact rfl); (case zd => decide); k_whole)
    | (refine' r_builtin ?zhe ?zC ?zS ?ze ?zv ?zn ?zk ?zx ?zd ?_; (case zhe => assumption); (case zC => assumption); (case zS => assumption); (case ze => k_is); (case zv => boot_by_name); (case zn => decide); (case zk => exact rfl); (case zx => exact rfl); (case zd => decide); k_whole)))
  k_with "storeName" => (k_dflt (refine' r_store ?zhe ?zS ?zk ?zx ?_; (case zhe => assumption); (case zS => assumption); (case zk => exact rfl); (case zx => exact rfl); k_whole); k_extra "my swap"; intro _ _ _)
  k_with "eval Constant int" => (refine r_cint ?_; intro _ _)
  k_with "eval Constant str" => (refine r_cstr ?_; intro _ _)
  k_with "eval Constant bytes" => (refine r_cbytes ?_; intro _ _)
  k_with "eval Constant bool" => (refine r_cbool ?_)
  k_with "eval Constant none" => (refine r_cnone ?_)
  k_with "binaryOp Add int int" => (refine r_add ?_; intro _ _)
  k_with "binaryOp Sub int int" => (refine r_sub ?_; intro _ _)
  k_with "binaryOp Mult int int" => (refine r_mul ?za ?_; (case za => mul_fits); intro _ _)
  k_with "binaryOp Mod int int" => (refine r_mod ?za ?_; (case za => first | decide | omega | assumption); intro _ _)
  k_with "binaryOp FloorDiv int int" => (refine r_fdiv ?za ?zb ?_; (case za => first | decide | omega); (case zb => first | decide | omega); intro _ _)
  k_with "compareOp Eq int int" => (refine r_eq ?_)
  k_with "compareOp NotEq int int" => (refine r_ne ?_)
  k_with "compareOp Lt int int" => (refine r_lt ?_)
  k_with "compareOp LtE int int" => (refine r_le ?_)
  k_with "compareOp Gt int int" => (refine r_gt ?_)
  k_with "compareOp GtE int int" => (refine r_ge ?_)
  k_with "unaryOp USub int" => (refine r_neg ?_; intro _ _)
  k_with "newTuple" => (refine' r_tuple ?zS ?zz ?_; (case zS => assumption); (case zz => exact Nat.le_of_ble_eq_true rfl); k_extra "my swap"; intro _ _ _ _)
  k_with "newList" => (refine' r_list ?zS ?zz ?_; (case zS => assumption); (case zz => exact Nat.le_of_ble_eq_true rfl); k_extra "my swap"; intro _ _ _ _)
  k_with "ite" => first | (refine PySem.W.ite_pos ?za ?_; (case za => k_extra "my dec")) | (refine PySem.W.ite_neg ?za ?_; (case za => k_extra "my dec")) | (refine split_dec ?_ ?_ <;> intro _) | (refine split_bool ?_ ?_ <;> intro _)
  k_with "my entered" => ((case C => assumption); (case S => assumption); (case k6 => k_is); (case k7 => k_is); (case kn => first | (refine up1 (by assumption) ?_; exact rfl) | omega); (case k9 => first | exact BindsTo.of_eq rfl | exact binds_K (Fx.inn (by assumption) (by assumption)) rfl (by k_is) rfl rfl rfl); (case kB => exact locs rfl); (case kD => decide); (case c2 => exact rfl); (case c3 => exact rfl); (case c4 => exact rfl); (case c5 => decide); k_extra "my swap"; intro _ _ _ _ _ _ _ _ _ _; (try dsimp only); k_extra "my fold")
  k_with "execs cons" => (refine wpAny_execs_cons ?_; (try k_extra "my fold"))
  k_with "execs nil" => refine wpAny_execs_nil ?_
  k_with "exec If" => refine wpAny_If ?_
  k_with "isTrue Compare" => refine wpAny_isTrue_Compare1 ?_
  k_with "exec Return some" => refine wpAny_Return_some ?_
  k_with "eval BinOp" => refine wpAny_BinOp ?_
  k_with "truthy bool" => refine wpAny_truthy_bool ?_
  k_with "getMethod ref" => (k_dflt (refine' r_lmeth ?zS ?zm ?zs ?zt ?_; (case zS => assumption); (case zm => k_mem); (case zs => first | exact PySem.F.slot_list_append | exact PySem.F.slot_list_pop | exact PySem.F.slot_list_index); (case zt => first | exact PySem.F.type_list_append | exact PySem.F.type_list_pop | exact PySem.F.type_list_index); k_whole))
  k_with "LeaveS" => ((try dsimp only); (refine' leaveS ?zS ?_; (case zS => assumption)); k_extra "my swap"; intro _; (try dsimp only [flowV]))
  k_with "exec Assign" => (k_dflt (first
    | (refine' r_assignN ?zhe ?zhs ?_; (case zhe => assumption); (case zhs => exact rfl); k_whole)
    | (refine' r_assignT ?zhe ?zhs ?zhw ?_; (case zhe => assumption); (case zhs => exact rfl); (case zhw => exact rfl); k_whole)
    | (refine' r_assignTS ?zhe ?zhs ?zhw ?_; (case zhe => assumption); (case zhs => exact rfl); (case zhw => exact rfl); k_whole)
    | (refine' plainObj_wpAny_Assign_Attribute ?_ ?zhs; (case zhs => exact rfl); k_whole)
    | (refine' wpAny_Assign_Subscript ?_ ?zhs; (case zhs => exact rfl); k_whole)))
  k_with "assign Tuple" => (k_dflt (refine' r_unpack ?zC ?zS ?zm ?zk1 ?zk2 ?_; (case zC => assumption); (case zS => assumption); (case zm => k_mem); (case zk1 => exact rfl); (case zk2 => exact rfl); k_whole); k_extra "my swap"; intro _ _; dsimp only [assignEach, List.map])
  k_with "assignInOrder" => first | refine assignInOrder_nil ?_ | refine assignInOrder_cons ?_
  k_with "assign Name" => refine assign_Name ?_
  k_with "unpackItems ref" => (k_dflt (refine' r_unpackItems ?zC ?zS ?zm ?zk1 ?_; (case zC => assumption); (case zS => assumption); (case zm => k_mem); (case zk1 => exact rfl); k_whole); k_extra "my swap"; intro _ _; dsimp only [List.reverse, List.reverseAux, List.map])
  k_with "bindName" => refine r_bindName ?_
  k_with "my sel" => first | exact Sel.head | (refine' Sel.tail ?zsel; (case zsel => k_extra "my sel"))
  k_with "my sub" => first
    | exact Sub.refl
    | (refine' Sub.take Sel.head ?zrest; (case zrest => k_extra "my sub"))
    | ((fail_if_success (refine' Sub.probe ?zpra ?zprm; (case zprm => k_mem))); refine' Sub.skip ?zrest; (case zrest => k_extra "my sub"))
    | (refine' Sub.take ?zsel ?zrest; (case zsel => k_extra "my sel"); (case zrest => k_extra "my sub"))
    | (refine' Sub.skip ?zrest; (case zrest => k_extra "my sub"))
  k_with "getAttr ref" => (k_dflt (refine' r_getR ?zS ?zX ?zh1 ?zh2 ?zho ?zhg ?zhh ?zha ?zhn ?zhl ?zhv ?_; (case zS => assumption); (case zX => assumption); (case zh1 => k_mem); (case zh2 => k_mem); (case zho => assumption); (case zhg => k_is); (case zhh => k_is); (case zha => k_is); (case zhn => k_is); (case zhl => exact rfl); (case zhv => exact rfl); k_whole); intro _)
  k_with "setAttr ref" => (k_dflt (refine' r_setR ?zS ?zX ?zh1 ?zU ?zho ?zhs ?zhp ?zht ?zhh ?zhz ?_; (case zS => assumption); (case zX => assumption); (case zh1 => k_mem); (case zU => k_extra "my spot"); (case zho => first | assumption | exact rec_nil); (case zhs => k_is); (case zhp => k_is); (case zht => k_is); (case zhh => k_is); (case zhz => exact Nat.le_of_ble_eq_true rfl); k_whole); k_extra "my swap"; intro _ _ _ _ _; (try (rename St _ _ _ _ _ => zzS; (try dsimp only at zzS); revert zzS; intro _)))
  k_with "getMethod ref" => (k_dflt (refine' r_methR ?zS ?zX ?zh1 ?zh2 ?zho ?zhg ?zhf ?zht ?zhl ?_; (case zS => assumption); (case zX => assumption); (case zh1 => k_mem); (case zh2 => k_mem); (case zho => assumption); (case zhg => k_is); (case zhf => k_is); (case zht => k_is); (case zhl => exact rfl); k_whole))
  k_with "call builtin:list.append" => (k_dflt (refine' r_appendL ?zS ?zU ?zz ?_; (case zS => assumption); (case zU => k_extra "my spot"); (case zz => omega); k_whole); k_extra "my swap"; intro _ _ _ _; (try (rename St _ _ _ _ _ => zzS; (try dsimp only at zzS); revert zzS; intro _)))
  k_with "exec Expr" => (k_dflt (refine' r_expr ?zhe ?zhi ?zhs ?_; (case zhe => assumption); (case zhi => exact rfl); (case zhs => exact rfl); k_whole))
  k_with "call builtin:len" => (k_dflt (refine' r_lenL ?zS ?zm ?zz ?_; (case zS => assumption); (case zm => k_mem); (case zz => (try simp only [List.length_append, List.length_cons, List.length_nil]); omega); k_whole); intro _ _)
  k_with "call builtin:list.pop" => (k_dflt ((with_reducible show wpAny _ _ (call (Value.builtin _) [Value.ref _, Value.int _ _]) _ _ _); refine' r_pop0L ?zS ?zU ?zne ?zz ?_; (case zS => assumption); (case zU => k_extra "my spot"); (case zne => simp; done); (case zz => (try simp only [List.length_append, List.length_cons, List.length_nil]); omega); k_whole); k_extra "my swap"; intro _ _ _ _ _; (try (rename St _ _ _ _ _ => zzS; (try dsimp only at zzS); revert zzS; intro _)))
  k_with "callWith ref" => (k_dflt (first
    | (refine' r_callWith ?zX ?zhk ?_; (case zX => exact Fx.X (by assumption)); (case zhk => k_is); k_whole)
    | (refine' r_callWith0 ?zC ?zS ?zhk ?_; (case zC => assumption); (case zS => assumption); (case zhk => k_is); k_whole)))
  k_with "And" => ((with_reducible show Frag.In _ _ ∧ _); k_dflt (refine' r_kin ?zC ?zS ?_; (case zC => assumption); (case zS => assumption)); try dsimp only [List.nil_append, List.cons_append])
  k_with "my swapD" => ((try (rename Deck _ _ _ _ _ => so; clear so)))
  k_with "call type:range" => (k_dflt (refine' r_rangeN ?zS ?zz ?_; (case zS => assumption); (case zz => omega); k_whole); k_extra "my swap"; intro _ _ _ _ _ _ _ _)
  k_with "subscriptTail" => (k_dflt (first
    | (refine' r_itemL ?zS ?zm ?za ?zb ?zx ?_ ?zhs; (case zS => assumption); (case zm => k_mem); (case za => decide); (case zb => decide); (case zx => exact rfl); (case zhs => exact rfl); k_whole)
    | (refine' r_itemT ?zS ?zm ?za ?zb ?zx ?_ ?zhs; (case zS => assumption); (case zm => k_mem); (case za => decide); (case zb => decide); (case zx => exact rfl); (case zhs => exact rfl); k_whole)
    | (refine' r_menuB ?zC ?zS ?zl ?zb ?za ?zc ?zd ?_ ?zhs; (case zC => assumption); (case zS => assumption); (case zl => k_is); (case zb => exact rfl); (case za => omega); (case zc => (simp only [List.length_cons, List.length_nil]); omega); (case zd => decide); (case zhs => exact rfl); k_whole; intro _ _)))
  k_with "binaryOp Add ref ref" => (k_dflt (refine' r_addL ?zS ?za ?zb ?zz ?_; (case zS => assumption); (case za => k_mem); (case zb => k_mem); (case zz => (try simp only [List.length_append, List.length_cons, List.length_nil]); omega); k_whole); k_extra "my swap"; intro _ _ _ _)
  k_with "call type:tuple" => (k_dflt (refine' r_tupleOf ?zS ?za ?zz ?_; (case zS => assumption); (case za => k_mem); (case zz => (try simp only [List.length_append, List.length_cons, List.length_nil]); omega); k_whole); k_extra "my swap"; intro _ _ _ _)
  k_with "my slice" => (k_dflt (refine' r_sliceL ?zS ?zm ?zpl ?zpu ?zhs ?zht ?zhz ?_; (case zS => assumption); (case zm => k_mem); (case zpl => first | exact .none | exact .int _ _); (case zpu => first | exact .none | exact .int _ _); (case zhs => exact rfl); (case zht => exact fun _ => rfl); (case zhz => (try simp only [List.length_append, List.length_cons, List.length_nil]); omega); k_whole); k_extra "my swap"; intro _ _ _ _)
  k_with "eval Dict nil nil" => (k_dflt (refine' r_newDict ?zC ?zS ?_; (case zC => assumption); (case zS => assumption); k_whole); k_extra "my swap"; intro _ _ _ _ _ _ _)
  k_with "my slice" => ((fail_if_success (with_reducible show wpAny _ _ (subscriptTail (PySem.Expr.Name _ _) _ _ _) _ _ _)); k_dflt (refine kba_turn (value' := PySem.Expr.Name (PySem.Str.ofString "_") ⟨0, 0, 0, 0⟩) (fun _ => rfl) ?_); k_extra "my slice")
  k_with "my stop" => first
    | (with_reducible show wpAny _ _ (subscriptTail _ _ (Value.ref _) (Value.ref _)) _ _ _)
    | (with_reducible show wpAny _ _ (setItem (Value.ref _) (Value.ref _) _) _ _ _)
    | (with_reducible show wpAny _ _ (call (Value.builtin "dict.pop") _) _ _ _)
    | (with_reducible show wpAny _ _ (call (Value.builtin "dict.get") _) _ _ _)
    | (with_reducible show wpAny _ _ (call (Value.builtin "list.index") _) _ _ _)
    | (with_reducible show wpAny _ _ (compareOp _ (Value.ref _) (Value.ref _)) _ _ _)
    | (with_reducible show wpAny _ _ (pyIter (Value.ref _)) _ _ _)
  k_with "my fold" => (refine foldQ ?_; intro _ _)
  k_with "my unfold" => first | ((rename ∀ (_ : Flow) (_ : Shared), _ → _ => hq; refine hq _ _ ?_; clear hq); (rename Flow → Shared → Prop => q; clear q); (try dsimp only)) | ((rename ∀ (_ : Value) (_ : Shared), _ → _ => hq; refine hq _ _ ?_; clear hq); (rename Value → Shared → Prop => q; clear q); (try dsimp only))
  k_with "my step" => first
    | ((with_reducible show wpAny _ _ (subscriptTail _ _ (Value.ref _) (Value.ref (Array.size _))) _ _ _); k_extra "my slice")
    | ((with_reducible show wpAny _ _ (exec _ _) (NextIs _) _ _); k_extra "my fold")
    | ((fail_if_success k_extra "my stop"); first | walk1 | (dsimp only; walk1) | k_extra "my unfold")
  k_with "my go" => repeat' k_extra "my step"
  k_with "my goIf" => repeat' ((fail_if_success (with_reducible show wpAny _ _ (exec (Stmt.If _ _ _ _) _) _ _ _)); k_extra "my step")
  k_with "my goFor" => repeat' ((fail_if_success (with_reducible show wpAny _ _ (exec (Stmt.For _ _ _ _ _) _) _ _ _)); k_extra "my step")
  k_with "binaryOp LShift int int" => (refine r_shl ?za ?zb ?zc ?_; (case za => omega); (case zb => omega); (case zc => omega); intro _ _)
  k_with "binaryOp BitOr int int" => (refine r_or ?_; intro _ _)
  trivial

theorem lines_T7_0 : True := by
  k_with "my mem" => first | k_mem | assumption | (refine List.Mem.tail _ ?ztl; (case ztl => k_extra "my mem"))
  k_with "getAttr ref" => (k_dflt (refine' r_getR ?zS ?zX ?zh1 ?zh2 ?zho ?zhg ?zhh ?zha ?zhn ?zhl ?zhv ?_; (case zS => assumption); (case zX => assumption); (case zh1 => k_extra "my mem"); (case zh2 => k_extra "my mem"); (case zho => assumption); (case zhg => k_is); (case zhh => k_is); (case zha => k_is); (case zhn => k_is); (case zhl => exact rfl); (case zhv => exact rfl); k_whole); intro _)
  k_with "getMethod ref" => (k_dflt (refine' r_methR ?zS ?zX ?zh1 ?zh2 ?zho ?zhg ?zhf ?zht ?zhl ?_; (case zS => assumption); (case zX => assumption); (case zh1 => k_extra "my mem"); (case zh2 => k_extra "my mem"); (case zho => assumption); (case zhg => k_is); (case zhf => k_is); (case zht => k_is); (case zhl => exact rfl); k_whole))
  k_with "compareOp Eq str str" => (refine r_eqsP (fun _ => ?_) (fun _ => ?_))
  k_with "compareOp NotEq str str" => (refine r_nesP (fun _ => ?_) (fun _ => ?_))
  k_with "compareOp In int ref" => (k_dflt (refine' r_inI (ns := [11, 14, 16, 17]) ?zS ?zha ?zhi ?_ ?_; (case zS => assumption); (case zha => k_mem); (case zhi => exact .cons _ _ (.cons _ _ (.cons _ _ (.cons _ _ .nil)))); k_whole) <;> intro _)
  k_with "getMethod ref" => (k_dflt (refine' r_dmeth (bk := siKind PySem.Challenge.rw_og0239_01.row.prog _) ?zS ?zm ?zH ?zs ?zt ?_; (case zS => assumption); (case zm => k_extra "my mem"); (case zH => assumption); (case zs => first | exact PySem.F.slot_dict_pop | exact PySem.F.slot_dict_get); (case zt => first | exact PySem.F.type_dict_pop | exact PySem.F.type_dict_get); k_whole))
  k_with "call type:list" => (k_dflt (refine' r_keysOf (knd := tupleKind (siKind PySem.Challenge.rw_og0239_01.row.prog _)) ?zC ?zS ?zm ?zH ?zsys ?zz ?_; (case zC => assumption); (case zS => assumption); (case zm => k_extra "my mem"); (case zH => assumption); (case zsys => assumption); (case zz => omega); k_whole); k_extra "my swap"; intro _ _ _ _ _)
  k_with "subscriptTail" => (k_dflt (refine' r_itemT ?zS ?zm ?za ?zb ?zx ?_ ?zhs; (case zS => assumption); (case zm => k_extra "my mem"); (case za => decide); (case zb => decide); (case zx => exact rfl); (case zhs => exact rfl); k_whole))
  trivial
theorem pall_code {w : World} {A : Around} {n : Nat} {g h : Heap} {env : Env} {L x dx ch : Addr} {o oc : Obj} {xs : List (SK × Addr × Value)} {m : Str → Option Value} {l T : List (Addr × Obj)} {s₀ : Shared} {t : Nat} {f b : Int} {wo : Str} {tw : Tok} {R : Result → Shared → Prop}
    (C : Fx (Mine.hd.heap_39 w.params) A n g env L) (hn : n ≤ 53) (S : St g L h m ((ch, oc) :: l)) (hx : (x, instObj 138 dx) ∈ l) (hdx : (dx, o) ∈ l) (ho : PRec o f b ch) (hT : ∀ p ∈ T, p ∈ l) (H : DH (tupleKind (siKind PG w)) oc xs) (hk : KeysL (siKind PG w) T xs) (hg : Good xs) (hz : xs.length ≤ 900)
    (hR : ∀ h' t' oc' xs', DH (tupleKind (siKind PG w)) oc' xs' → KeysL (siKind PG w) T xs' → Good xs' → xs'.length ≤ xs.length → (∀ w' n', valAt xs' w' n' f b = if w' = wo then lfirst w' n' f b else valAt xs w' n' f b) → St g L h' m ((ch, oc') :: l) → R (.ok (.ret .none)) (sg s₀ h' t')) :
    codeAny (model PySem.Challenge.rw_og0239_01.row.prog w) A (.call (.ref 128) ⟨[.ref x, .str wo tw], []⟩) R (sg s₀ h t) := by
  revert C; k_fill; intro C
  obtain ⟨⟨tf, tb, ho⟩, hsys⟩ := ho
  have up : ∀ {o' : Obj}, ∀ p ∈ l, p ∈ (ch, o') :: l := fun p hp => .tail _ hp
  refine' enter [Str.ofString "self", Str.ofString "word"] ?C ?S ?k6 ?k7 ?kn ?k9 ?kB ?kD ?_ ?c2 ?c3 ?c4 ?c5
  k_extra "my entered"
  rename_i g' L' h' t' env' _ he st C' S' _ _
  k_extra "my goFor"
  refine' r_for ?he ?hk ?hx ?hs g' ?_
  (case he => assumption)
  (case hk => exact rfl)
  (case hx => exact rfl)
  (case hs => exact fun _ => rfl)
  k_extra "my go"
  rename_i D c h t S
  have S := S.subS (l' := (ch, oc) :: (D, W.listOf (xs.map fun x => PySem.Value.ref x.2.1).toArray c) :: l) (by k_extra "my sub")
  refine' iter_list (fun i m l' => ∃ oc' xs', m (Str.ofString "self") = some (.ref x) ∧ m (Str.ofString "word") = some (.str wo tw) ∧ DH (tupleKind (siKind PG w)) oc' xs' ∧ xs' = (xs.take i).filter (fun x => !isWord wo x.1) ++ xs.drop i ∧
    l' = (ch, oc') :: (D, W.listOf (xs.map fun x => PySem.Value.ref x.2.1).toArray c) :: l) he C'.hnd S ?hfix ?hj ?turn ?done
  case hfix => rintro i m l' ⟨oc', xs', _, _, _, _, rfl⟩; exact .tail _ (.head _)
  case hj => exact ⟨oc, xs, rfl, rfl, H, by simp, rfl⟩
  case turn =>
    clear S H
    rintro i v m₁ l₁ h₁ t₁ I o₁ hi hv ⟨oc', xs', q1, q2, H, hxs, rfl⟩ S
    k_extra "my fold"
    have hi' : i < xs.length := by simpa using hi
    have hv' : v = .ref xs[i].2.1 := by
      have : (xs.map fun x => PySem.Value.ref x.2.1)[i]? = some v := by simpa using hv
      rw [List.getElem?_map, List.getElem?_eq_getElem hi'] at this
      injection this with this
      exact this.symm
    subst hv'
    obtain ⟨wk, nk, ek, hvk, tk, uk, hkey⟩ := key_of hk hg (List.getElem_mem hi')
    replace hkey := hT _ hkey
    have hsub : ∀ y ∈ xs', y ∈ xs := by
      intro y hy
      rw [hxs] at hy
      rcases List.mem_append.mp hy with hy | hy
      · exact List.mem_of_mem_take (List.mem_filter.mp hy).1
      · exact List.mem_of_mem_drop hy
    have hlen : xs'.length ≤ xs.length := by
      rw [hxs, List.length_append, List.length_drop]
      have := List.length_filter_le (fun x : SK × Addr × Value => !isWord wo x.1) (xs.take i)
      rw [List.length_take] at this
      omega
    have hdrop : xs.drop i = xs[i] :: xs.drop (i + 1) := List.drop_eq_getElem_cons hi'
    have htake : xs.take (i + 1) = xs.take i ++ [xs[i]] := by rw [List.take_add_one, List.getElem?_eq_getElem hi']; rfl
    have hword : isWord wo xs[i].1 = decide (wk = wo) := by rw [ek]; rfl
    k_extra "my go"
    · rename wk = wo => e
      rename St _ _ _ _ _ => S
      have hw : isWord wo xs[i].1 = true := by rw [hword, decide_eq_true e]
      have hkx : KeysL (siKind PG w) T xs' := fun y hy => hk y (hsub y hy)
      have hat : ∃ kb v, atKey xs' xs[i].1 = some (kb, v) := by
        have hm : xs[i] ∈ xs' := by rw [hxs, hdrop]; exact List.mem_append_right _ (.head _)
        obtain ⟨j, hj⟩ := List.mem_iff_getElem?.mp hm
        exact ⟨_, _, atKey_of_get H.nodup (p := (xs[i].2.1, xs[i].2.2)) hj⟩
      obtain ⟨kb, vb, hat⟩ := hat
      have hkt : TupK (siKind PG w) T xs[i].1 xs[i].2.1 := hk _ (List.getElem_mem hi')
      refine r_hpop (gl := fun o => (I, o₁) :: (ch, o) :: (D, W.listOf (xs.map fun x => PySem.Value.ref x.2.1).toArray c) :: l) C' (up1 hn rfl) S (.tail .head) H (hkx.mono fun p hp => .tail _ (.tail _ (.tail _ (hT p hp)))) (hkt.mono fun p hp => .tail _ (.tail _ (.tail _ (hT p hp)))) (by omega) hat ?_
      clear S
      intro h t oc2 H2 S
      k_extra "my go"
      rename St _ _ _ _ _ => S
      refine' turn_S _ S ?sub ⟨oc2, withoutH xs' xs[i].1, q1, q2, H2, ?e, rfl⟩
      case sub => k_extra "my sub"
      case e =>
        have hnd := H.nodup
        rw [hxs, hdrop] at hnd
        rw [hxs, hdrop, without_mid hnd, htake, List.filter_append]
        simp [hw]
    · rename wk ≠ wo => e
      rename St _ _ _ _ _ => S
      have hw : isWord wo xs[i].1 = false := by rw [hword, decide_eq_false e]
      refine' turn_S _ S ?sub ⟨oc', xs', q1, q2, H, ?e, rfl⟩
      case sub => k_extra "my sub"
      case e =>
        rw [hxs, hdrop, htake, List.filter_append]
        simp [hw]
  case done =>
    clear S H
    rintro h t m l' S ⟨oc', xs', q1, q2, H, hxs, rfl⟩
    have e : xs' = xs.filter (fun x => !isWord wo x.1) := by
      rw [hxs]; simp
    subst e
    k_extra "my go"
    rename St _ _ _ _ _ => S
    refine' hR _ _ _ _ H (fun x hx => hk x (List.mem_filter.mp hx).1) (hg.sub fun x hx => (List.mem_filter.mp hx).1) (List.length_filter_le _ _) (fun w' n' => val_words xs wo w' n' f b) (S.subS ?sub)
    case sub => k_extra "my sub"

end
section
theorem lines_T8 : True := by
  k_with_none
  k_with "subscriptTail" => ((fail_if_success (with_reducible show wpAny _ _ (subscriptTail (PySem.Expr.Name _ _) _ _ _) _ _ _)); k_dflt (refine kba_turn (value' := PySem.Expr.Name (PySem.Str.ofString "_") ⟨0, 0, 0, 0⟩) (fun _ => rfl) ?_))
  k_with "my spot" => first | exact Spot.head | (refine' Spot.tail ?zspt; (case zspt => k_extra "my spot"))
  k_with "my swap" => ((try (rename St _ _ _ _ _ => so; clear so)))
  k_with "my subl" => first | exact List.Sublist.refl _ | (refine List.Sublist.cons_cons _ ?_; k_extra "my subl") | (refine List.Sublist.cons _ ?_; k_extra "my subl")
  k_with "my dec" => first | assumption | decide | omega | ((simp only [decide_eq_true_eq, decide_eq_false_iff_not, beq_iff_eq, bne_iff_ne, ne_eq, Bool.not_eq_true, Bool.not_eq_false, Bool.not_eq_true', Bool.not_eq_false', beq_eq_false_iff_ne, bne_eq_false_iff_eq]); omega) | (simp_all; done)
  k_with "eval Name" => (k_dflt (first
    | (refine' r_local ?zhe ?zS ?zv ?zk ?zx ?zd ?_; (case zhe => assumption); (case zS => assumption); (case zv => first | exact rfl | assumption); (case zk => exact rfl); (case zx => exact rfl); (case zd => decide); k_whole)
    | (refine' r_global ?zhe ?zC ?zS ?ze ?zk ?zx ?zd ?_; (case zhe => assumption); (case zC => assumption); (case zS => assumption); (case ze => k_is); (case zk => exact rfl); (case zx => exact rfl); (case zd => decide); k_whole)
    | (refine' r_builtin ?zhe ?zC ?zS ?ze ?zv ?zn ?zk ?zx ?zd ?_; (case zhe => assumption); (case zC => assumption); (case zS => assumption); (case ze => k_is); (case zv => boot_by_name); (case zn => decide); (case zk => exact rfl); (case zx => exact rfl); (case zd => decide); k_whole)))
  k_with "storeName" => (k_dflt (refine' r_store ?zhe ?zS ?zk ?zx ?_; (case zhe => assumption); (case zS => assumption); (case zk => exact rfl); (case zx => exact rfl); k_whole); k_extra "my swap"; intro _ _ _)
  k_with "eval Constant int" => (refine r_cint ?_; intro _ _)
  k_with "eval Constant str" => (refine r_cstr ?_; intro _ _)
  k_with "eval Constant bytes" => (refine r_cbytes ?_; intro _ _)
  k_with "eval Constant bool" => (refine r_cbool ?_)
  k_with "eval Constant none" => (refine r_cnone ?_)
  k_with "binaryOp Add int int" => (refine r_add ?_; intro _ _)
  k_with "binaryOp Sub int int" => (refine r_sub ?_; intro _ _)
  k_with "binaryOp Mult int int" => (refine r_mul ?za ?_; (case za => mul_fits); intro _ _)
  k_with "binaryOp Mod int int" => (refine r_mod ?za ?_; (case za => first | decide | omega | assumption); intro _ _)
  k_with "binaryOp FloorDiv int int" => (refine r_fdiv ?za ?zb ?_; (case za => first | decide | omega); (case zb => first | decide | omega); intro _ _)
  k_with "compareOp Eq int int" => (refine r_eq ?_)
  k_with "compareOp NotEq int int" => (refine r_ne ?_)
  k_with "compareOp Lt int int" => (refine r_lt ?_)
  k_with "compareOp LtE int int" => (refine r_le ?_)
  k_with "compareOp Gt int int" => (refine r_gt ?_)
  k_with "compareOp GtE int int" => (refine r_ge ?_)
  k_with "unaryOp USub int" => (refine r_neg ?_; intro _ _)
  k_with "newTuple" => (refine' r_tuple ?zS ?zz ?_; (case zS => assumption); (case zz => exact Nat.le_of_ble_eq_true rfl); k_extra "my swap"; intro _ _ _ _)
  k_with "newList" => (refine' r_list ?zS ?zz ?_; (case zS => assumption); (case zz => exact Nat.le_of_ble_eq_true rfl); k_extra "my swap"; intro _ _ _ _)
  k_with "ite" => first | (refine PySem.W.ite_pos ?za ?_; (case za => k_extra "my dec")) | (refine PySem.W.ite_neg ?za ?_; (case za => k_extra "my dec")) | (refine split_dec ?_ ?_ <;> intro _) | (refine split_bool ?_ ?_ <;> intro _)
  k_with "my entered" => ((case C => assumption); (case S => assumption); (case k6 => k_is); (case k7 => k_is); (case kn => first | (refine up1 (by assumption) ?_; exact rfl) | omega); (case k9 => first | exact BindsTo.of_eq rfl | exact binds_K (Fx.inn (by assumption) (by assumption)) rfl (by k_is) rfl rfl rfl); (case kB => exact locs rfl); (case kD => decide); (case c2 => exact rfl); (case c3 => exact rfl); (case c4 => exact rfl); (case c5 => decide); k_extra "my swap"; intro _ _ _ _ _ _ _ _ _ _; (try dsimp only); k_extra "my fold")
  k_with "execs cons" => (refine wpAny_execs_cons ?_; (try k_extra "my fold"))
  k_with "execs nil" => refine wpAny_execs_nil ?_
  k_with "exec If" => refine wpAny_If ?_
  k_with "isTrue Compare" => refine wpAny_isTrue_Compare1 ?_
  k_with "exec Return some" => refine wpAny_Return_some ?_
  k_with "eval BinOp" => refine wpAny_BinOp ?_
  k_with "truthy bool" => refine wpAny_truthy_bool ?_
  k_with "getMethod ref" => (k_dflt (refine' r_lmeth ?zS ?zm ?zs ?zt ?_; (case zS => assumption); (case zm => k_mem); (case zs => first | exact PySem.F.slot_list_append | exact PySem.F.slot_list_pop | exact PySem.F.slot_list_index); (case zt => first | exact PySem.F.type_list_append | exact PySem.F.type_list_pop | exact PySem.F.type_list_index); k_whole))
  k_with "LeaveS" => ((try dsimp only); (refine' leaveS ?zS ?_; (case zS => assumption)); k_extra "my swap"; intro _; (try dsimp only [flowV]))
  k_with "exec Assign" => (k_dflt (first
    | (refine' r_assignN ?zhe ?zhs ?_; (case zhe => assumption); (case zhs => exact rfl); k_whole)
    | (refine' r_assignT ?zhe ?zhs ?zhw ?_; (case zhe => assumption); (case zhs => exact rfl); (case zhw => exact rfl); k_whole)
    | (refine' r_assignTS ?zhe ?zhs ?zhw ?_; (case zhe => assumption); (case zhs => exact rfl); (case zhw => exact rfl); k_whole)
    | (refine' plainObj_wpAny_Assign_Attribute ?_ ?zhs; (case zhs => exact rfl); k_whole)
    | (refine' wpAny_Assign_Subscript ?_ ?zhs; (case zhs => exact rfl); k_whole)))
  k_with "assign Tuple" => (k_dflt (refine' r_unpack ?zC ?zS ?zm ?zk1 ?zk2 ?_; (case zC => assumption); (case zS => assumption); (case zm => k_mem); (case zk1 => exact rfl); (case zk2 => exact rfl); k_whole); k_extra "my swap"; intro _ _; dsimp only [assignEach, List.map])
  k_with "assignInOrder" => first | refine assignInOrder_nil ?_ | refine assignInOrder_cons ?_
  k_with "assign Name" => refine assign_Name ?_
  k_with "unpackItems ref" => (k_dflt (refine' r_unpackItems ?zC ?zS ?zm ?zk1 ?_; (case zC => assumption); (case zS => assumption); (case zm => k_mem); (case zk1 => exact rfl); k_whole); k_extra "my swap"; intro _ _; dsimp only [List.reverse, List.reverseAux, List.map])
  k_with "bindName" => refine r_bindName ?_
  k_with "my sel" => first | exact Sel.head | (refine' Sel.tail ?zsel; (case zsel => k_extra "my sel"))
  k_with "my sub" => first
    | exact Sub.refl
    | (refine' Sub.take Sel.head ?zrest; (case zrest => k_extra "my sub"))
    | ((fail_if_success (refine' Sub.probe ?zpra ?zprm; (case zprm => k_mem))); refine' Sub.skip ?zrest; (case zrest => k_extra "my sub"))
    | (refine' Sub.take ?zsel ?zrest; (case zsel => k_extra "my sel"); (case zrest => k_extra "my sub"))
    | (refine' Sub.skip ?zrest; (case zrest => k_extra "my sub"))
  k_with "getAttr ref" => (k_dflt (refine' r_getR ?zS ?zX ?zh1 ?zh2 ?zho ?zhg ?zhh ?zha ?zhn ?zhl ?zhv ?_; (case zS => assumption); (case zX => assumption); (case zh1 => k_mem); (case zh2 => k_mem); (case zho => assumption); (case zhg => k_is); (case zhh => k_is); (case zha => k_is); (case zhn => k_is); (case zhl => exact rfl); (case zhv => exact rfl); k_whole); intro _)
  k_with "setAttr ref" => (k_dflt (refine' r_setR ?zS ?zX ?zh1 ?zU ?zho ?zhs ?zhp ?zht ?zhh ?zhz ?_; (case zS => assumption); (case zX => assumption); (case zh1 => k_mem); (case zU => k_extra "my spot"); (case zho => first | assumption | exact rec_nil); (case zhs => k_is); (case zhp => k_is); (case zht => k_is); (case zhh => k_is); (case zhz => exact Nat.le_of_ble_eq_true rfl); k_whole); k_extra "my swap"; intro _ _ _ _ _; (try (rename St _ _ _ _ _ => zzS; (try dsimp only at zzS); revert zzS; intro _)))
  k_with "getMethod ref" => (k_dflt (refine' r_methR ?zS ?zX ?zh1 ?zh2 ?zho ?zhg ?zhf ?zht ?zhl ?_; (case zS => assumption); (case zX => assumption); (case zh1 => k_mem); (case zh2 => k_mem); (case zho => assumption); (case zhg => k_is); (case zhf => k_is); (case zht => k_is); (case zhl => exact rfl); k_whole))
  k_with "call builtin:list.append" => (k_dflt (refine' r_appendL ?zS ?zU ?zz ?_; (case zS => assumption); (case zU => k_extra "my spot"); (case zz => omega); k_whole); k_extra "my swap"; intro _ _ _ _; (try (rename St _ _ _ _ _ => zzS; (try dsimp only at zzS); revert zzS; intro _)))
  k_with "exec Expr" => (k_dflt (refine' r_expr ?zhe ?zhi ?zhs ?_; (case zhe => assumption); (case zhi => exact rfl); (case zhs => exact rfl); k_whole))
  k_with "call builtin:len" => (k_dflt (refine' r_lenL ?zS ?zm ?zz ?_; (case zS => assumption); (case zm => k_mem); (case zz => (try simp only [List.length_append, List.length_cons, List.length_nil]); omega); k_whole); intro _ _)
  k_with "call builtin:list.pop" => (k_dflt ((with_reducible show wpAny _ _ (call (Value.builtin _) [Value.ref _, Value.int _ _]) _ _ _); refine' r_pop0L ?zS ?zU ?zne ?zz ?_; (case zS => assumption); (case zU => k_extra "my spot"); (case zne => simp; done); (case zz => (try simp only [List.length_append, List.length_cons, List.length_nil]); omega); k_whole); k_extra "my swap"; intro _ _ _ _ _; (try (rename St _ _ _ _ _ => zzS; (try dsimp only at zzS); revert zzS; intro _)))
  k_with "callWith ref" => (k_dflt (first
    | (refine' r_callWith ?zX ?zhk ?_; (case zX => exact Fx.X (by assumption)); (case zhk => k_is); k_whole)
    | (refine' r_callWith0 ?zC ?zS ?zhk ?_; (case zC => assumption); (case zS => assumption); (case zhk => k_is); k_whole)))
  k_with "And" => ((with_reducible show Frag.In _ _ ∧ _); k_dflt (refine' r_kin ?zC ?zS ?_; (case zC => assumption); (case zS => assumption)); try dsimp only [List.nil_append, List.cons_append])
  k_with "my swapD" => ((try (rename Deck _ _ _ _ _ => so; clear so)))
  k_with "call type:range" => (k_dflt (refine' r_rangeN ?zS ?zz ?_; (case zS => assumption); (case zz => omega); k_whole); k_extra "my swap"; intro _ _ _ _ _ _ _ _)
  k_with "subscriptTail" => (k_dflt (first
    | (refine' r_itemL ?zS ?zm ?za ?zb ?zx ?_ ?zhs; (case zS => assumption); (case zm => k_mem); (case za => decide); (case zb => decide); (case zx => exact rfl); (case zhs => exact rfl); k_whole)
    | (refine' r_itemT ?zS ?zm ?za ?zb ?zx ?_ ?zhs; (case zS => assumption); (case zm => k_mem); (case za => decide); (case zb => decide); (case zx => exact rfl); (case zhs => exact rfl); k_whole)
    | (refine' r_menuB ?zC ?zS ?zl ?zb ?za ?zc ?zd ?_ ?zhs; (case zC => assumption); (case zS => assumption); (case zl => k_is); (case zb => exact rfl); (case za => omega); (case zc => (simp only [List.length_cons, List.length_nil]); omega); (case zd => decide); (case zhs => exact rfl); k_whole; intro _ _)))
  k_with "binaryOp Add ref ref" => (k_dflt (refine' r_addL ?zS ?za ?zb ?zz ?_; (case zS => assumption); (case za => k_mem); (case zb => k_mem); (case zz => (try simp only [List.length_append, List.length_cons, List.length_nil]); omega); k_whole); k_extra "my swap"; intro _ _ _ _)
  k_with "call type:tuple" => (k_dflt (refine' r_tupleOf ?zS ?za ?zz ?_; (case zS => assumption); (case za => k_mem); (case zz => (try simp only [List.length_append, List.length_cons, List.length_nil]); omega); k_whole); k_extra "my swap"; intro _ _ _ _)
  k_with "my slice" => (k_dflt (refine' r_sliceL ?zS ?zm ?zpl ?zpu ?zhs ?zht ?zhz ?_; (case zS => assumption); (case zm => k_mem); (case zpl => first | exact .none | exact .int _ _); (case zpu => first | exact .none | exact .int _ _); (case zhs => exact rfl); (case zht => exact fun _ => rfl); (case zhz => (try simp only [List.length_append, List.length_cons, List.length_nil]); omega); k_whole); k_extra "my swap"; intro _ _ _ _)
  k_with "eval Dict nil nil" => (k_dflt (refine' r_newDict ?zC ?zS ?_; (case zC => assumption); (case zS => assumption); k_whole); k_extra "my swap"; intro _ _ _ _ _ _ _)
  k_with "my slice" => ((fail_if_success (with_reducible show wpAny _ _ (subscriptTail (PySem.Expr.Name _ _) _ _ _) _ _ _)); k_dflt (refine kba_turn (value' := PySem.Expr.Name (PySem.Str.ofString "_") ⟨0, 0, 0, 0⟩) (fun _ => rfl) ?_); k_extra "my slice")
  k_with "my stop" => first
    | (with_reducible show wpAny _ _ (subscriptTail _ _ (Value.ref _) (Value.ref _)) _ _ _)
    | (with_reducible show wpAny _ _ (setItem (Value.ref _) (Value.ref _) _) _ _ _)
    | (with_reducible show wpAny _ _ (call (Value.builtin "dict.pop") _) _ _ _)
    | (with_reducible show wpAny _ _ (call (Value.builtin "dict.get") _) _ _ _)
    | (with_reducible show wpAny _ _ (call (Value.builtin "list.index") _) _ _ _)
    | (with_reducible show wpAny _ _ (compareOp _ (Value.ref _) (Value.ref _)) _ _ _)
    | (with_reducible show wpAny _ _ (pyIter (Value.ref _)) _ _ _)
  k_with "my fold" => (refine foldQ ?_; intro _ _)
  k_with "my unfold" => first | ((rename ∀ (_ : Flow) (_ : Shared), _ → _ => hq; refine hq _ _ ?_; clear hq); (rename Flow → Shared → Prop => q; clear q); (try dsimp only)) | ((rename ∀ (_ : Value) (_ : Shared), _ → _ => hq; refine hq _ _ ?_; clear hq); (rename Value → Shared → Prop => q; clear q); (try dsimp only))
  k_with "my step" => first
    | ((with_reducible show wpAny _ _ (subscriptTail _ _ (Value.ref _) (Value.ref (Array.size _))) _ _ _); k_extra "my slice")
    | ((with_reducible show wpAny _ _ (exec _ _) (NextIs _) _ _); k_extra "my fold")
    | ((fail_if_success k_extra "my stop"); first | walk1 | (dsimp only; walk1) | k_extra "my unfold")
  k_with "my go" => repeat' k_extra "my step"
  k_with "my goIf" => repeat' ((fail_if_success (with_reducible show wpAny _ _ (exec (Stmt.If _ _ _ _) _) _ _ _)); k_extra "my step")
  k_with "my goFor" => repeat' ((fail_if_success (with_reducible show wpAny _ _ (exec (Stmt.For _ _ _ _ _) _) _ _ _)); k_extra "my step")
  k_with "binaryOp LShift int int" => (refine r_shl ?za ?zb ?zc ?_; (case za => omega); (case zb => omega); (case zc => omega); intro _ _)
  k_with "binaryOp BitOr int int" => (refine r_or ?_; intro _ _)
  trivial

theorem lines_T8_0 : True := by
  k_with "my mem" => first | k_mem | assumption | (refine List.Mem.tail _ ?ztl; (case ztl => k_extra "my mem"))
  k_with "getAttr ref" => (k_dflt (refine' r_getR ?zS ?zX ?zh1 ?zh2 ?zho ?zhg ?zhh ?zha ?zhn ?zhl ?zhv ?_; (case zS => assumption); (case zX => assumption); (case zh1 => k_extra "my mem"); (case zh2 => k_extra "my mem"); (case zho => assumption); (case zhg => k_is); (case zhh => k_is); (case zha => k_is); (case zhn => k_is); (case zhl => exact rfl); (case zhv => exact rfl); k_whole); intro _)
  k_with "getMethod ref" => (k_dflt (refine' r_methR ?zS ?zX ?zh1 ?zh2 ?zho ?zhg ?zhf ?zht ?zhl ?_; (case zS => assumption); (case zX => assumption); (case zh1 => k_extra "my mem"); (case zh2 => k_extra "my mem"); (case zho => assumption); (case zhg => k_is); (case zhf => k_is); (case zht => k_is); (case zhl => exact rfl); k_whole))
  k_with "compareOp Eq str str" => (refine r_eqsP (fun _ => ?_) (fun _ => ?_))
  k_with "compareOp NotEq str str" => (refine r_nesP (fun _ => ?_) (fun _ => ?_))
  k_with "compareOp In int ref" => (k_dflt (refine' r_inI (ns := [11, 14, 16, 17]) ?zS ?zha ?zhi ?_ ?_; (case zS => assumption); (case zha => k_mem); (case zhi => exact .cons _ _ (.cons _ _ (.cons _ _ (.cons _ _ .nil)))); k_whole) <;> intro _)
  k_with "getMethod ref" => (k_dflt (refine' r_dmeth (bk := siKind PySem.Challenge.rw_og0239_01.row.prog _) ?zS ?zm ?zH ?zs ?zt ?_; (case zS => assumption); (case zm => k_extra "my mem"); (case zH => assumption); (case zs => first | exact PySem.F.slot_dict_pop | exact PySem.F.slot_dict_get); (case zt => first | exact PySem.F.type_dict_pop | exact PySem.F.type_dict_get); k_whole))
  k_with "call type:list" => (k_dflt (refine' r_keysOf (knd := tupleKind (siKind PySem.Challenge.rw_og0239_01.row.prog _)) ?zC ?zS ?zm ?zH ?zsys ?zz ?_; (case zC => assumption); (case zS => assumption); (case zm => k_extra "my mem"); (case zH => assumption); (case zsys => assumption); (case zz => omega); k_whole); k_extra "my swap"; intro _ _ _ _ _)
  k_with "subscriptTail" => (k_dflt (refine' r_itemT ?zS ?zm ?za ?zb ?zx ?_ ?zhs; (case zS => assumption); (case zm => k_extra "my mem"); (case za => decide); (case zb => decide); (case zx => exact rfl); (case zhs => exact rfl); k_whole))
  k_with "assign Tuple" => (k_dflt (refine' r_unpack ?zC ?zS ?zm ?zk1 ?zk2 ?_; (case zC => assumption); (case zS => assumption); (case zm => k_extra "my mem"); (case zk1 => exact rfl); (case zk2 => exact rfl); k_whole); k_extra "my swap"; intro _ _; dsimp only [assignEach, List.map])
  trivial
section
variable {prog : Program} {w : World} {K : Frag} {A : Around} {n : Nat} {g h : Heap} {env : Env} {L : Addr} {m : Str → Option Value} {l : List (Addr × Obj)} {s₀ : Shared} {t : Nat}
/-- an item of a tuple of ints of the ledger -/
theorem r_levT {E : Value → Shared → Prop} {Q : Value → Shared → Prop} {a : Addr} {t1 t2 t3 t4 t5 t6 : Tok} {value slice : PySem.Expr} {k : Int} {u : Tok} (S : St g L h m l) (hl : (a, tupO [.int 0 t1, .int 95 t2, .int 135 t3, .int 175 t4, .int 215 t5, .int 255 t6]) ∈ l)
    (h0 : 0 ≤ k) (h1 : k < 6) (hQ : ∀ v tk, v = lev k → Q (.int v tk) (sg s₀ h t))
    (hs : subscripted slice false (.ref a) (.int k u) = operate [.ref a, .int k u] (getItem (.ref a) (.int k u)) := by with_unfolding_all rfl) :
    wpAny (model prog w) A (subscriptTail value slice (.ref a) (.int k u)) Q E (sg s₀ h t) := by
  have : ∃ v tk, ([.int 0 t1, .int 95 t2, .int 135 t3, .int 175 t4, .int 215 t5, .int 255 t6] : List Value)[k.toNat]? = some (.int v tk) ∧ v = lev k := by
    unfold lev
    have hk : k.toNat < 6 := by omega
    generalize k.toNat = j at hk
    rcases j with _ | _ | _ | _ | _ | _ | j
    · exact ⟨_, _, rfl, rfl⟩
    · exact ⟨_, _, rfl, rfl⟩
    · exact ⟨_, _, rfl, rfl⟩
    · exact ⟨_, _, rfl, rfl⟩
    · exact ⟨_, _, rfl, rfl⟩
    · exact ⟨_, _, rfl, rfl⟩
    · omega
  obtain ⟨v, tk, hx, e⟩ := this
  exact r_itemT S hl h0 (by omega) hx (hQ v tk e) hs
end
theorem lines_T8_1 : True := by
  k_with "subscriptTail" => (k_dflt (refine' r_levT ?zS ?zl ?za ?zc ?_ ?zhs; (case zS => assumption); (case zl => k_extra "my mem"); (case za => ((try simp (disch := decide) only [Int.fdiv_eq_ediv_of_nonneg, Int.fmod_eq_emod_of_nonneg]); omega)); (case zc => ((try simp (disch := decide) only [Int.fdiv_eq_ediv_of_nonneg, Int.fmod_eq_emod_of_nonneg, List.length_cons, List.length_nil]); omega)); (case zhs => exact rfl); k_whole; intro _ _ _))
  trivial
theorem lawfirst_code {w : World} {A : Around} {n : Nat} {g h : Heap} {env : Env} {L ka : Addr} {m : Str → Option Value} {l : List (Addr × Obj)} {s₀ : Shared} {t : Nat} {f b nu : Int} {tf tb : Tok} {wo : Str} {R : Result → Shared → Prop}
    (C : Fx (Mine.hd.heap_39 w.params) A n g env L) (hn : n ≤ 53) (S : St g L h m l) (hka : KeyAt l wo nu ka) (hv : VK wo nu)
    (hR : ∀ h' t' v tk, v = lfirst wo nu f b → St g L h' m l → R (.ok (.ret (.int v tk))) (sg s₀ h' t')) :
    codeAny (model PySem.Challenge.rw_og0239_01.row.prog w) A (.call (.ref 216) ⟨[.ref ka, .int f tf, .int b tb], []⟩) R (sg s₀ h t) := by
  revert C; k_fill; intro C
  obtain ⟨tw, tn, hka⟩ := hka
  refine' enter [Str.ofString "key", Str.ofString "fore", Str.ofString "back"] ?C ?S ?k6 ?k7 ?kn ?k9 ?kB ?kD ?_ ?c2 ?c3 ?c4 ?c5
  k_extra "my entered"
  rename_i g' L' h' t' env' _ he st C' S' _ _
  k_extra "my goIf"
  walk1
  k_extra "my goIf"
  · rename wo = _ => e
    have hv := hv e
    k_extra "my go"
    · rename nu ≥ _ => c1
      rename St _ _ _ _ _ => S
      exact hR _ _ _ _ (by unfold lfirst palI; rw [if_pos e, if_pos c1]) S
    · rename ¬ nu ≥ _ => c1
      rename _ = lev ((nu - 16).fdiv 36) => e1
      rename _ = lev (((nu - 16).fdiv 6).fmod 6) => e2
      rename _ = lev ((nu - 16).fmod 6) => e3
      rename St _ _ _ _ _ => S
      refine hR _ _ _ _ ?_ (S.subS ?sub)
      · unfold lfirst palI; rw [if_pos e, if_neg c1, e1, e2, e3]
      case sub => k_extra "my sub"
  · rename wo ≠ _ => e
    rename wo = _ => e2
    rename nu ∈ _ => e3
    rename St _ _ _ _ _ => S
    refine hR _ _ _ _ ?_ (S.subS ?sub)
    · unfold lfirst; rw [if_neg e, if_pos ⟨e2, e3⟩]
    case sub => k_extra "my sub"
  · rename wo ≠ _ => e
    rename wo = _ => e2
    rename nu ∉ _ => e3
    rename St _ _ _ _ _ => S
    refine hR _ _ _ _ ?_ (S.subS ?sub)
    · unfold lfirst; rw [if_neg e, if_neg fun q => e3 q.2]
    case sub => k_extra "my sub"
  · rename wo ≠ sIndex => e
    rename wo ≠ sDyn => e2
    rename St _ _ _ _ _ => S
    refine hR _ _ _ _ ?_ S
    unfold lfirst; rw [if_neg e, if_neg fun q => e2 q.1]

end
section
theorem lines_R1 : True := by
  k_with_none
  k_with "subscriptTail" => ((fail_if_success (with_reducible show wpAny _ _ (subscriptTail (PySem.Expr.Name _ _) _ _ _) _ _ _)); k_dflt (refine kba_turn (value' := PySem.Expr.Name (PySem.Str.ofString "_") ⟨0, 0, 0, 0⟩) (fun _ => rfl) ?_))
  k_with "my spot" => first | exact Spot.head | (refine' Spot.tail ?zspt; (case zspt => k_extra "my spot"))
  k_with "my swap" => ((try (rename St _ _ _ _ _ => so; clear so)))
  k_with "my subl" => first | exact List.Sublist.refl _ | (refine List.Sublist.cons_cons _ ?_; k_extra "my subl") | (refine List.Sublist.cons _ ?_; k_extra "my subl")
  k_with "my dec" => first | assumption | decide | omega | ((simp only [decide_eq_true_eq, decide_eq_false_iff_not, beq_iff_eq, bne_iff_ne, ne_eq, Bool.not_eq_true, Bool.not_eq_false, Bool.not_eq_true', Bool.not_eq_false', beq_eq_false_iff_ne, bne_eq_false_iff_eq]); omega) | (simp_all; done)
  k_with "eval Name" => (k_dflt (first
    | (refine' r_local ?zhe ?zS ?zv ?zk ?zx ?zd ?_; (case zhe => assumption); (case zS => assumption); (case zv => first | exact rfl | assumption); (case zk => exact rfl); (case zx => exact rfl); (case zd => decide); k_whole)
    | (refine' r_global ?zhe ?zC ?zS ?ze ?zk ?zx ?zd ?_; (case zhe => assumption); (case zC => assumption); (case zS => assumption); (case ze => k_is); (case zk => exact rfl); (case zx => exact rfl); (case zd => decide); k_whole)
    | (refine' r_builtin ?zhe ?zC ?zS ?ze ?zv ?zn ?zk ?zx ?zd ?_; (case zhe => assumption); (case zC => assumption); (case zS => assumption); (case ze => k_is); (case zv => boot_by_name); (case zn => decide); (case zk => exact rfl); (case zx => exact rfl); (case zd => decide); k_whole)))
  k_with "storeName" => (k_dflt (refine' r_store ?zhe ?zS ?zk ?zx ?_; (case zhe => assumption); (case zS => assumption); (case zk => exact rfl); (case zx => exact rfl); k_whole); k_extra "my swap"; intro _ _ _)
  k_with "eval Constant int" => (refine r_cint ?_; intro _ _)
  k_with "eval Constant str" => (refine r_cstr ?_; intro _ _)
  k_with "eval Constant bytes" => (refine r_cbytes ?_; intro _ _)
  k_with "eval Constant bool" => (refine r_cbool ?_)
  k_with "eval Constant none" => (refine r_cnone ?_)
  k_with "binaryOp Add int int" => (refine r_add ?_; intro _ _)
  k_with "binaryOp Sub int int" => (refine r_sub ?_; intro _ _)
  k_with "binaryOp Mult int int" => (refine r_mul ?za ?_; (case za => mul_fits); intro _ _)
  k_with "binaryOp Mod int int" => (refine r_mod ?za ?_; (case za => first | decide | omega | assumption); intro _ _)
  k_with "binaryOp FloorDiv int int" => (refine r_fdiv ?za ?zb ?_; (case za => first | decide | omega); (case zb => first | decide | omega); intro _ _)
  k_with "compareOp Eq int int" => (refine r_eq ?_)
  k_with "compareOp NotEq int int" => (refine r_ne ?_)
  k_with "compareOp Lt int int" => (refine r_lt ?_)
  k_with "compareOp LtE int int" => (refine r_le ?_)
  k_with "compareOp Gt int int" => (refine r_gt ?_)
  k_with "compareOp GtE int int" => (refine r_ge ?_)
  k_with "unaryOp USub int" => (refine r_neg ?_; intro _ _)
  k_with "newTuple" => (refine' r_tuple ?zS ?zz ?_; (case zS => assumption); (case zz => exact Nat.le_of_ble_eq_true rfl); k_extra "my swap"; intro _ _ _ _)
  k_with "newList" => (refine' r_list ?zS ?zz ?_; (case zS => assumption); (case zz => exact Nat.le_of_ble_eq_true rfl); k_extra "my swap"; intro _ _ _ _)
  k_with "ite" => first | (refine PySem.W.ite_pos ?za ?_; (case za => k_extra "my dec")) | (refine PySem.W.ite_neg ?za ?_; (case za => k_extra "my dec")) | (refine split_dec ?_ ?_ <;> intro _) | (refine split_bool ?_ ?_ <;> intro _)
  k_with "my entered" => ((case C => assumption); (case S => assumption); (case k6 => k_is); (case k7 => k_is); (case kn => first | (refine up1 (by assumption) ?_; exact rfl) | omega); (case k9 => first | exact BindsTo.of_eq rfl | exact binds_K (Fx.inn (by assumption) (by assumption)) rfl (by k_is) rfl rfl rfl); (case kB => exact locs rfl); (case kD => decide); (case c2 => exact rfl); (case c3 => exact rfl); (case c4 => exact rfl); (case c5 => decide); k_extra "my swap"; intro _ _ _ _ _ _ _ _ _ _; (try dsimp only); k_extra "my fold")
  k_with "execs cons" => (refine wpAny_execs_cons ?_; (try k_extra "my fold"))
  k_with "execs nil" => refine wpAny_execs_nil ?_
  k_with "exec If" => refine wpAny_If ?_
  k_with "isTrue Compare" => refine wpAny_isTrue_Compare1 ?_
  k_with "exec Return some" => refine wpAny_Return_some ?_
  k_with "eval BinOp" => refine wpAny_BinOp ?_
  k_with "truthy bool" => refine wpAny_truthy_bool ?_
  k_with "getMethod ref" => (k_dflt (refine' r_lmeth ?zS ?zm ?zs ?zt ?_; (case zS => assumption); (case zm => k_mem); (case zs => first | exact PySem.F.slot_list_append | exact PySem.F.slot_list_pop | exact PySem.F.slot_list_index); (case zt => first | exact PySem.F.type_list_append | exact PySem.F.type_list_pop | exact PySem.F.type_list_index); k_whole))
  k_with "LeaveS" => ((try dsimp only); (refine' leaveS ?zS ?_; (case zS => assumption)); k_extra "my swap"; intro _; (try dsimp only [flowV]))
  k_with "exec Assign" => (k_dflt (first
    | (refine' r_assignN ?zhe ?zhs ?_; (case zhe => assumption); (case zhs => exact rfl); k_whole)
    | (refine' r_assignT ?zhe ?zhs ?zhw ?_; (case zhe => assumption); (case zhs => exact rfl); (case zhw => exact rfl); k_whole)
    | (refine' r_assignTS ?zhe ?zhs ?zhw ?_; (case zhe => assumption); (case zhs => exact rfl); (case zhw => exact rfl); k_whole)
    | (refine' plainObj_wpAny_Assign_Attribute ?_ ?zhs; (case zhs => exact rfl); k_whole)
    | (refine' wpAny_Assign_Subscript ?_ ?zhs; (case zhs => exact rfl); k_whole)))
  k_with "assign Tuple" => (k_dflt (refine' r_unpack ?zC ?zS ?zm ?zk1 ?zk2 ?_; (case zC => assumption); (case zS => assumption); (case zm => k_mem); (case zk1 => exact rfl); (case zk2 => exact rfl); k_whole); k_extra "my swap"; intro _ _; dsimp only [assignEach, List.map])
  k_with "assignInOrder" => first | refine assignInOrder_nil ?_ | refine assignInOrder_cons ?_
  k_with "assign Name" => refine assign_Name ?_
  k_with "unpackItems ref" => (k_dflt (refine' r_unpackItems ?zC ?zS ?zm ?zk1 ?_; (case zC => assumption); (case zS => assumption); (case zm => k_mem); (case zk1 => exact rfl); k_whole); k_extra "my swap"; intro _ _; dsimp only [List.reverse, List.reverseAux, List.map])
  k_with "bindName" => refine r_bindName ?_
  k_with "my sel" => first | exact Sel.head | (refine' Sel.tail ?zsel; (case zsel => k_extra "my sel"))
  k_with "my sub" => first
    | exact Sub.refl
    | (refine' Sub.take Sel.head ?zrest; (case zrest => k_extra "my sub"))
    | ((fail_if_success (refine' Sub.probe ?zpra ?zprm; (case zprm => k_mem))); refine' Sub.skip ?zrest; (case zrest => k_extra "my sub"))
    | (refine' Sub.take ?zsel ?zrest; (case zsel => k_extra "my sel"); (case zrest => k_extra "my sub"))
    | (refine' Sub.skip ?zrest; (case zrest => k_extra "my sub"))
  k_with "getAttr ref" => (k_dflt (refine' r_getR ?zS ?zX ?zh1 ?zh2 ?zho ?zhg ?zhh ?zha ?zhn ?zhl ?zhv ?_; (case zS => assumption); (case zX => assumption); (case zh1 => k_mem); (case zh2 => k_mem); (case zho => assumption); (case zhg => k_is); (case zhh => k_is); (case zha => k_is); (case zhn => k_is); (case zhl => exact rfl); (case zhv => exact rfl); k_whole); intro _)
  k_with "setAttr ref" => (k_dflt (refine' r_setR ?zS ?zX ?zh1 ?zU ?zho ?zhs ?zhp ?zht ?zhh ?zhz ?_; (case zS => assumption); (case zX => assumption); (case zh1 => k_mem); (case zU => k_extra "my spot"); (case zho => first | assumption | exact rec_nil); (case zhs => k_is); (case zhp => k_is); (case zht => k_is); (case zhh => k_is); (case zhz => exact Nat.le_of_ble_eq_true rfl); k_whole); k_extra "my swap"; intro _ _ _ _ _; (try (rename St _ _ _ _ _ => zzS; (try dsimp only at zzS); revert zzS; intro _)))
  k_with "getMethod ref" => (k_dflt (refine' r_methR ?zS ?zX ?zh1 ?zh2 ?zho ?zhg ?zhf ?zht ?zhl ?_; (case zS => assumption); (case zX => assumption); (case zh1 => k_mem); (case zh2 => k_mem); (case zho => assumption); (case zhg => k_is); (case zhf => k_is); (case zht => k_is); (case zhl => exact rfl); k_whole))
  k_with "call builtin:list.append" => (k_dflt (refine' r_appendL ?zS ?zU ?zz ?_; (case zS => assumption); (case zU => k_extra "my spot"); (case zz => omega); k_whole); k_extra "my swap"; intro _ _ _ _; (try (rename St _ _ _ _ _ => zzS; (try dsimp only at zzS); revert zzS; intro _)))
  k_with "exec Expr" => (k_dflt (refine' r_expr ?zhe ?zhi ?zhs ?_; (case zhe => assumption); (case zhi => exact rfl); (case zhs => exact rfl); k_whole))
  k_with "call builtin:len" => (k_dflt (refine' r_lenL ?zS ?zm ?zz ?_; (case zS => assumption); (case zm => k_mem); (case zz => (try simp only [List.length_append, List.length_cons, List.length_nil]); omega); k_whole); intro _ _)
  k_with "call builtin:list.pop" => (k_dflt ((with_reducible show wpAny _ _ (call (Value.builtin _) [Value.ref _, Value.int _ _]) _ _ _); refine' r_pop0L ?zS ?zU ?zne ?zz ?_; (case zS => assumption); (case zU => k_extra "my spot"); (case zne => simp; done); (case zz => (try simp only [List.length_append, List.length_cons, List.length_nil]); omega); k_whole); k_extra "my swap"; intro _ _ _ _ _; (try (rename St _ _ _ _ _ => zzS; (try dsimp only at zzS); revert zzS; intro _)))
  k_with "callWith ref" => (k_dflt (first
    | (refine' r_callWith ?zX ?zhk ?_; (case zX => exact Fx.X (by assumption)); (case zhk => k_is); k_whole)
    | (refine' r_callWith0 ?zC ?zS ?zhk ?_; (case zC => assumption); (case zS => assumption); (case zhk => k_is); k_whole)))
  k_with "And" => ((with_reducible show Frag.In _ _ ∧ _); k_dflt (refine' r_kin ?zC ?zS ?_; (case zC => assumption); (case zS => assumption)); try dsimp only [List.nil_append, List.cons_append])
  k_with "my swapD" => ((try (rename Deck _ _ _ _ _ => so; clear so)))
  k_with "call type:range" => (k_dflt (refine' r_rangeN ?zS ?zz ?_; (case zS => assumption); (case zz => omega); k_whole); k_extra "my swap"; intro _ _ _ _ _ _ _ _)
  k_with "subscriptTail" => (k_dflt (first
    | (refine' r_itemL ?zS ?zm ?za ?zb ?zx ?_ ?zhs; (case zS => assumption); (case zm => k_mem); (case za => decide); (case zb => decide); (case zx => exact rfl); (case zhs => exact rfl); k_whole)
    | (refine' r_itemT ?zS ?zm ?za ?zb ?zx ?_ ?zhs; (case zS => assumption); (case zm => k_mem); (case za => decide); (case zb => decide); (case zx => exact rfl); (case zhs => exact rfl); k_whole)
    | (refine' r_menuB ?zC ?zS ?zl ?zb ?za ?zc ?zd ?_ ?zhs; (case zC => assumption); (case zS => assumption); (case zl => k_is); (case zb => exact rfl); (case za => omega); (case zc => (simp only [List.length_cons, List.length_nil]); omega); (case zd => decide); (case zhs => exact rfl); k_whole; intro _ _)))
  k_with "binaryOp Add ref ref" => (k_dflt (refine' r_addL ?zS ?za ?zb ?zz ?_; (case zS => assumption); (case za => k_mem); (case zb => k_mem); (case zz => (try simp only [List.length_append, List.length_cons, List.length_nil]); omega); k_whole); k_extra "my swap"; intro _ _ _ _)
  k_with "call type:tuple" => (k_dflt (refine' r_tupleOf ?zS ?za ?zz ?_; (case zS => assumption); (case za => k_mem); (case zz => (try simp only [List.length_append, List.length_cons, List.length_nil]); omega); k_whole); k_extra "my swap"; intro _ _ _ _)
  k_with "my slice" => (k_dflt (refine' r_sliceL ?zS ?zm ?zpl ?zpu ?zhs ?zht ?zhz ?_; (case zS => assumption); (case zm => k_mem); (case zpl => first | exact .none | exact .int _ _); (case zpu => first | exact .none | exact .int _ _); (case zhs => exact rfl); (case zht => exact fun _ => rfl); (case zhz => (try simp only [List.length_append, List.length_cons, List.length_nil]); omega); k_whole); k_extra "my swap"; intro _ _ _ _)
  k_with "eval Dict nil nil" => (k_dflt (refine' r_newDict ?zC ?zS ?_; (case zC => assumption); (case zS => assumption); k_whole); k_extra "my swap"; intro _ _ _ _ _ _ _)
  k_with "my slice" => ((fail_if_success (with_reducible show wpAny _ _ (subscriptTail (PySem.Expr.Name _ _) _ _ _) _ _ _)); k_dflt (refine kba_turn (value' := PySem.Expr.Name (PySem.Str.ofString "_") ⟨0, 0, 0, 0⟩) (fun _ => rfl) ?_); k_extra "my slice")
  k_with "my stop" => first
    | (with_reducible show wpAny _ _ (subscriptTail _ _ (Value.ref _) (Value.ref _)) _ _ _)
    | (with_reducible show wpAny _ _ (setItem (Value.ref _) (Value.ref _) _) _ _ _)
    | (with_reducible show wpAny _ _ (call (Value.builtin "dict.pop") _) _ _ _)
    | (with_reducible show wpAny _ _ (call (Value.builtin "dict.get") _) _ _ _)
    | (with_reducible show wpAny _ _ (call (Value.builtin "list.index") _) _ _ _)
    | (with_reducible show wpAny _ _ (compareOp _ (Value.ref _) (Value.ref _)) _ _ _)
    | (with_reducible show wpAny _ _ (pyIter (Value.ref _)) _ _ _)
  k_with "my fold" => (refine foldQ ?_; intro _ _)
  k_with "my unfold" => first | ((rename ∀ (_ : Flow) (_ : Shared), _ → _ => hq; refine hq _ _ ?_; clear hq); (rename Flow → Shared → Prop => q; clear q); (try dsimp only)) | ((rename ∀ (_ : Value) (_ : Shared), _ → _ => hq; refine hq _ _ ?_; clear hq); (rename Value → Shared → Prop => q; clear q); (try dsimp only))
  k_with "my step" => first
    | ((with_reducible show wpAny _ _ (subscriptTail _ _ (Value.ref _) (Value.ref (Array.size _))) _ _ _); k_extra "my slice")
    | ((with_reducible show wpAny _ _ (exec _ _) (NextIs _) _ _); k_extra "my fold")
    | ((fail_if_success k_extra "my stop"); first | walk1 | (dsimp only; walk1) | k_extra "my unfold")
  k_with "my go" => repeat' k_extra "my step"
  k_with "my goIf" => repeat' ((fail_if_success (with_reducible show wpAny _ _ (exec (Stmt.If _ _ _ _) _) _ _ _)); k_extra "my step")
  k_with "my goFor" => repeat' ((fail_if_success (with_reducible show wpAny _ _ (exec (Stmt.For _ _ _ _ _) _) _ _ _)); k_extra "my step")
  k_with "binaryOp LShift int int" => (refine r_shl ?za ?zb ?zc ?_; (case za => omega); (case zb => omega); (case zc => omega); intro _ _)
  k_with "binaryOp BitOr int int" => (refine r_or ?_; intro _ _)
  trivial

theorem lines_R1_0 : True := by
  k_with "my mem" => first | k_mem | assumption | (refine List.Mem.tail _ ?ztl; (case ztl => k_extra "my mem"))
  k_with "getAttr ref" => (k_dflt (refine' r_getR ?zS ?zX ?zh1 ?zh2 ?zho ?zhg ?zhh ?zha ?zhn ?zhl ?zhv ?_; (case zS => assumption); (case zX => assumption); (case zh1 => k_extra "my mem"); (case zh2 => k_extra "my mem"); (case zho => assumption); (case zhg => k_is); (case zhh => k_is); (case zha => k_is); (case zhn => k_is); (case zhl => exact rfl); (case zhv => exact rfl); k_whole); intro _)
  k_with "getMethod ref" => (k_dflt (refine' r_methR ?zS ?zX ?zh1 ?zh2 ?zho ?zhg ?zhf ?zht ?zhl ?_; (case zS => assumption); (case zX => assumption); (case zh1 => k_extra "my mem"); (case zh2 => k_extra "my mem"); (case zho => assumption); (case zhg => k_is); (case zhf => k_is); (case zht => k_is); (case zhl => exact rfl); k_whole))
  k_with "compareOp Eq str str" => (refine r_eqsP (fun _ => ?_) (fun _ => ?_))
  k_with "compareOp NotEq str str" => (refine r_nesP (fun _ => ?_) (fun _ => ?_))
  k_with "compareOp In int ref" => (k_dflt (refine' r_inI (ns := [11, 14, 16, 17]) ?zS ?zha ?zhi ?_ ?_; (case zS => assumption); (case zha => k_mem); (case zhi => exact .cons _ _ (.cons _ _ (.cons _ _ (.cons _ _ .nil)))); k_whole) <;> intro _)
  k_with "getMethod ref" => (k_dflt (refine' r_dmeth (bk := siKind PySem.Challenge.rw_og0239_01.row.prog _) ?zS ?zm ?zH ?zs ?zt ?_; (case zS => assumption); (case zm => k_extra "my mem"); (case zH => assumption); (case zs => first | exact PySem.F.slot_dict_pop | exact PySem.F.slot_dict_get); (case zt => first | exact PySem.F.type_dict_pop | exact PySem.F.type_dict_get); k_whole))
  k_with "call type:list" => (k_dflt (refine' r_keysOf (knd := tupleKind (siKind PySem.Challenge.rw_og0239_01.row.prog _)) ?zC ?zS ?zm ?zH ?zsys ?zz ?_; (case zC => assumption); (case zS => assumption); (case zm => k_extra "my mem"); (case zH => assumption); (case zsys => assumption); (case zz => omega); k_whole); k_extra "my swap"; intro _ _ _ _ _)
  k_with "subscriptTail" => (k_dflt (refine' r_itemT ?zS ?zm ?za ?zb ?zx ?_ ?zhs; (case zS => assumption); (case zm => k_extra "my mem"); (case za => decide); (case zb => decide); (case zx => exact rfl); (case zhs => exact rfl); k_whole))
  k_with "eval Name" => ((with_reducible show wpAny _ _ (eval (PySem.Expr.Name _ _) (compEnvC _ _ _ _)) _ _ _); k_dflt (refine' rcb_cell ?zS ?zhc ?zhm ?zho ?zhk ?zhx ?zhd ?_; (case zhk => assumption); (case zhc => with_reducible assumption); (case zhx => with_reducible assumption); (case zS => assumption); (case zhm => k_extra "my mem"); (case zho => assumption); (case zhd => decide); k_whole))
  k_with "eval Name" => ((with_reducible show wpAny _ _ (eval (PySem.Expr.Name (PySem.Str.ofString "one") _) (compEnvC _ _ _ _)) _ _ _); k_dflt (refine' rcb_local ?zS ?zhm ?zhoC ?zhv ?zhk ?zhx ?zhd ?_; (case zhk => assumption); (case zhx => with_reducible assumption); (case zS => assumption); (case zhoC => assumption); (case zhm => k_extra "my mem"); (case zhv => assumption); (case zhd => decide); k_whole))
  trivial
open PyProof.Rows.LCg PyProof.Rows.LCt
theorem known_turn {w : World} {K : Frag} {A : Around} {n : Nat} {g h : Heap} {env : Env} {L cw ck kn Cc I2 D2 ka kb : Addr} {ow ok okn oC oI : Obj} {m m₂ : Str → Option Value} {l2 : List (Addr × Obj)} {s₀ : Shared} {t : Nat} {us : List Value} {ys : List (SK × Addr × Value)}
    {wk wd : Str} {nk : Int} {tk uk tw : Tok} {v : Value} {p1 p2 p3 p4 p5 p6 p7 p8 p9 p10 : Pos} {k1 k2 : Nat} {scope : Scope} {ccl : List (Str × Addr)} {N : Shared → Prop} {Y : Value → Shared → Prop}
    (C : Fx K A n g env L) (hn : n ≤ 100) (S : St g L h m ((I2, oI) :: (Cc, oC) :: (D2, lst us) :: l2)) (hoC : NsObj oC m₂) (hm2 : m₂ (Str.ofString "one") = some (.ref ka)) (mY : (ka, tupO [.str wk tk, .int nk uk]) ∈ l2) (mK : (kn, okn) ∈ l2) (mC : (ck, ok) ∈ l2) (mW : (cw, ow) ∈ l2)
    (dk : ok.data = .cell (some (.ref kn))) (dw : ow.data = .cell (some (.str wd tw))) (H2 : DH (tupleKind (siKind PG w)) okn ys) (hks : KeysL (siKind PG w) l2 ys) (hat : atKey ys (kOf wk nk) = some (kb, v))
    (hkd : scope.kind = .function) (hk1 : scope.names.lookup (Str.ofString "one") = some .local) (hk2 : (compEnvC scope ccl Cc env).kindOf (Str.ofString "known") = some .cell) (hk3 : (compEnvC scope ccl Cc env).kindOf (Str.ofString "word") = some .cell)
    (hc1 : ccl.lookup (Str.ofString "known") = some ck) (hc2 : ccl.lookup (Str.ofString "word") = some cw)
    (hno : wk = wd → ∀ t', N (sg s₀ h t')) (hyes : wk ≠ wd → ∀ pd h' t', St g L h' m ((pd, tupO [.ref ka, v]) :: (I2, oI) :: (Cc, oC) :: (D2, lst us) :: l2) → Y (.ref pd) (sg s₀ h' t')) :
    wpAny (model PG w) A (isTrue (.Compare (.Subscript (.Name (Str.ofString "one") p1) (.Constant (.int 0) k1 p2) p3) [.NotEq] [.Name (Str.ofString "word") p4] p5)
        (compEnvC scope ccl Cc env)
        (eval (.Compare (.Subscript (.Name (Str.ofString "one") p1) (.Constant (.int 0) k1 p2) p3) [.NotEq] [.Name (Str.ofString "word") p4] p5)
        (compEnvC scope ccl Cc env)))
      (fun ok s' => if ok = true then wpAny (model PG w) A (eval (.Tuple [.Name (Str.ofString "one") p6, .Subscript (.Name (Str.ofString "known") p7) (.Name (Str.ofString "one") p8) p9] k2 p10)
        (compEnvC scope ccl Cc env)) Y (fun _ _ => False) s' else N s') (fun _ _ => False) (sg s₀ h t) := by
  k_extra "my go"
  · rename wk = _ => e
    exact hno e _
  · rename wk ≠ _ => e
    rename St _ _ _ _ _ => S
    have hka : TupK (siKind PG w) l2 (kOf wk nk) ka := KeyAt.tup (nu := nk) ⟨_, _, mY⟩
    refine r_hget (v := v) (ka := kb) C hn S (by k_extra "my mem") H2 (hks.mono fun p hp => .tail _ (.tail _ (.tail _ hp))) (hka.mono fun p hp => .tail _ (.tail _ (.tail _ hp))) hat ?_ rfl
    intro t
    k_extra "my go"
    rename St _ _ _ _ _ => S
    exact hyes e _ _ _ S
theorem PairsL.mono {prog : Program} {w : World} {bk : KeyKind prog w (Str ⊕ Int)} {l l' : List (Addr × Obj)} {ps : List (SK × Addr × Value)} {vs : List Value} (h : PairsL bk l ps vs) (hs : ∀ p ∈ l, p ∈ l') : PairsL bk l' ps vs :=
  Paired.imp (fun _ _ x => by obtain ⟨a, e, hm, hk⟩ := x; exact ⟨a, e, hs _ hm, hk.mono hs⟩) h
/-- the comprehension over the known colours -/
theorem known_comp {w : World} {K : Frag} {A : Around} {n : Nat} {g h : Heap} {env : Env} {L cw ck kn : Addr} {ow ok okn : Obj} {m : Str → Option Value} {l T : List (Addr × Obj)} {s₀ : Shared} {t : Nat} {ys : List (SK × Addr × Value)} {wd : Str} {tw : Tok}
    {iter : PySem.Expr} {p1 p2 p3 p4 p5 p6 p7 p8 p9 p10 p11 p12 : Pos} {k1 k2 : Nat} {scope : Scope} {ccl : List (Str × Addr)} {Q : Value → Shared → Prop} {E : Value → Shared → Prop}
    (hclos : closureFor scope env = pure ccl) (hcell : ∀ y ∈ scope.names, y.2 ≠ .cell) (hkd : scope.kind = .function)
    (hnames : ∀ y ∈ scope.names, y.2 = .local → scope.names.lookup y.1 = some .local) (hx : scope.names.lookup (Str.ofString "one") = some .local) (hs : ∀ x, foldedSetIterable iter env x = pure x)
    (hkk : ∀ Cc, (compEnvC scope ccl Cc env).kindOf (Str.ofString "known") = some .cell) (hkw : ∀ Cc, (compEnvC scope ccl Cc env).kindOf (Str.ofString "word") = some .cell)
    (hc1 : ccl.lookup (Str.ofString "known") = some ck) (hc2 : ccl.lookup (Str.ofString "word") = some cw)
    (C : Fx K A n g env L) (hn : n ≤ 100) (S : St g L h m l) (mK : (kn, okn) ∈ l) (mC : (ck, ok) ∈ l) (mW : (cw, ow) ∈ l) (hT : ∀ p ∈ T, p ∈ l)
    (dk : ok.data = .cell (some (.ref kn))) (dw : ow.data = .cell (some (.str wd tw))) (hsys : (kn == sysModules) = false) (H2 : DH (tupleKind (siKind PG w)) okn ys) (hk : KeysL (siKind PG w) T ys) (hg : Good ys) (hz : ys.length ≤ 900)
    (hit : wpAny (model PG w) A (eval iter env) (fun v s => v = .ref kn ∧ ∃ t', s = sg s₀ h t') E (sg s₀ h t))
    (hQ : ∀ D us h' t' N, St g L h' m ((D, lst us) :: (N ++ l)) → PairsL (siKind PG w) (N ++ l) (ys.filter fun z => !isWord wd z.1) us → Q (.ref D) (sg s₀ h' t')) :
    wpAny (model PG w) A (eval (.ListComp (.Tuple [.Name (Str.ofString "one") p6, .Subscript (.Name (Str.ofString "known") p7) (.Name (Str.ofString "one") p8) p9] k2 p10)
      [⟨.Name (Str.ofString "one") p11, iter, [.Compare (.Subscript (.Name (Str.ofString "one") p1) (.Constant (.int 0) k1 p2) p3) [.NotEq] [.Name (Str.ofString "word") p4] p5], 0⟩] scope p12) env) Q E (sg s₀ h t) := by
  refine r_compT (g := g) (L := L) (m := m) (ccl := ccl) hclos hcell hkd hnames hx hs (wpAny_mono hit ?_ fun _ _ e => e)
  rintro v s₁ ⟨rfl, t', rfl⟩
  refine ⟨_, _, l, ys.length, _, _, fun j us l2 => ∃ N, l2 = N ++ l ∧ PairsL (siKind PG w) l2 ((ys.take j).filter fun z => !isWord wd z.1) us, rfl, S, src_dict C S mK H2 hsys, by omega, ?hkp, ⟨[], rfl, .nil⟩, ?turn, ?done⟩
  case hkp => rintro _ _ _ ⟨N, rfl, _⟩; exact List.mem_append_right _ mK
  case turn =>
    clear S
    rintro j v us l2 I2 oI2 Cc oC D2 m₂ h t hj ⟨y, hy, rfl⟩ hoC hm2 ⟨N, rfl, hps⟩ S
    have up : ∀ p ∈ l, p ∈ N ++ l := fun p hp => List.mem_append_right _ hp
    obtain ⟨wk, nk, ek, hvk2, tk2, uk2, hkey⟩ := key_of hk hg (List.mem_of_getElem? hy)
    have hat : atKey ys (kOf wk nk) = some (y.2.1, y.2.2) := by rw [← ek]; exact atKey_of_get H2.nodup hy
    have htup : TupK (siKind PG w) (N ++ l) y.1 y.2.1 := by rw [ek]; exact KeyAt.tup ⟨_, _, up _ (hT _ hkey)⟩
    have htk : (ys.take (j + 1)).filter (fun z => !isWord wd z.1) = (ys.take j).filter (fun z => !isWord wd z.1) ++ (if wk = wd then [] else [y]) := by
      have hwd : isWord wd y.1 = decide (wk = wd) := by rw [ek]; rfl
      rw [List.take_add_one, hy, List.filter_append]
      by_cases e : wk = wd
      · simp [hwd, e]
      · simp [hwd, e]
    refine known_turn C hn S hoC hm2 (up _ (hT _ hkey)) (up _ mK) (up _ mC) (up _ mW) dk dw H2 (hk.mono fun p hp => up _ (hT _ hp)) hat hkd hx (hkk _) (hkw _) hc1 hc2 (fun e t' => ?_) (fun e pd h' t' S => ?_)
    · refine block_S (l' := []) (N ++ l) S .refl ⟨N, rfl, ?_⟩
      rw [htk, if_pos e, List.append_nil]
      exact hps
    · refine block_S (l' := []) ((pd, tupO [.ref y.2.1, y.2.2]) :: (N ++ l)) S ?_ ⟨(pd, tupO [.ref y.2.1, y.2.2]) :: N, rfl, ?_⟩
      · k_extra "my sub"
      · rw [htk, if_neg e]
        exact Paired.snoc (hps.mono fun p hp => .tail _ hp) ⟨pd, rfl, .head _, htup.mono fun p hp => .tail _ hp⟩
  case done =>
    clear S
    rintro D2 h t us l2 S ⟨N, rfl, hps⟩
    rw [List.take_length] at hps
    exact hQ _ _ _ _ N S hps

end
section
theorem lines_R2 : True := by
  k_with_none
  k_with "subscriptTail" => ((fail_if_success (with_reducible show wpAny _ _ (subscriptTail (PySem.Expr.Name _ _) _ _ _) _ _ _)); k_dflt (refine kba_turn (value' := PySem.Expr.Name (PySem.Str.ofString "_") ⟨0, 0, 0, 0⟩) (fun _ => rfl) ?_))
  k_with "my spot" => first | exact Spot.head | (refine' Spot.tail ?zspt; (case zspt => k_extra "my spot"))
  k_with "my swap" => ((try (rename St _ _ _ _ _ => so; clear so)))
  k_with "my subl" => first | exact List.Sublist.refl _ | (refine List.Sublist.cons_cons _ ?_; k_extra "my subl") | (refine List.Sublist.cons _ ?_; k_extra "my subl")
  k_with "my dec" => first | assumption | decide | omega | ((simp only [decide_eq_true_eq, decide_eq_false_iff_not, beq_iff_eq, bne_iff_ne, ne_eq, Bool.not_eq_true, Bool.not_eq_false, Bool.not_eq_true', Bool.not_eq_false', beq_eq_false_iff_ne, bne_eq_false_iff_eq]); omega) | (simp_all; done)
  k_with "eval Name" => (k_dflt (first
    | (refine' r_local ?zhe ?zS ?zv ?zk ?zx ?zd ?_; (case zhe => assumption); (case zS => assumption); (case zv => first | exact rfl | assumption); (case zk => exact rfl); (case zx => exact rfl); (case zd => decide); k_whole)
    | (refine' r_global ?zhe ?zC ?zS ?ze ?zk ?zx ?zd ?_; (case zhe => assumption); (case zC => assumption); (case zS => assumption); (case ze => k_is); (case zk => exact rfl); (case zx => exact rfl); (case zd => decide); k_whole)
    | (refine' r_builtin ?zhe ?zC ?zS ?ze ?zv ?zn ?zk ?zx ?zd ?_; (case zhe => assumption); (case zC => assumption); (case zS => assumption); (case ze => k_is); (case zv => boot_by_name); (case zn => decide); (case zk => exact rfl); (case zx => exact rfl); (case zd => decide); k_whole)))
  k_with "storeName" => (k_dflt (refine' r_store ?zhe ?zS ?zk ?zx ?_; (case zhe => assumption); (case zS => assumption); (case zk => exact rfl); (case zx => exact rfl); k_whole); k_extra "my swap"; intro _ _ _)
  k_with "eval Constant int" => (refine r_cint ?_; intro _ _)
  k_with "eval Constant str" => (refine r_cstr ?_; intro _ _)
  k_with "eval Constant bytes" => (refine r_cbytes ?_; intro _ _)
  k_with "eval Constant bool" => (refine r_cbool ?_)
  k_with "eval Constant none" => (refine r_cnone ?_)
  k_with "binaryOp Add int int" => (refine r_add ?_; intro _ _)
  k_with "binaryOp Sub int int" => (refine r_sub ?_; intro _ _)
  k_with "binaryOp Mult int int" => (refine r_mul ?za ?_; (case za => mul_fits); intro _ _)
  k_with "binaryOp Mod int int" => (refine r_mod ?za ?_; (case za => first | decide | omega | assumption); intro _ _)
  k_with "binaryOp FloorDiv int int" => (refine r_fdiv ?za ?zb ?_; (case za => first | decide | omega); (case zb => first | decide | omega); intro _ _)
  k_with "compareOp Eq int int" => (refine r_eq ?_)
  k_with "compareOp NotEq int int" => (refine r_ne ?_)
  k_with "compareOp Lt int int" => (refine r_lt ?_)
  k_with "compareOp LtE int int" => (refine r_le ?_)
  k_with "compareOp Gt int int" => (refine r_gt ?_)
  k_with "compareOp GtE int int" => (refine r_ge ?_)
  k_with "unaryOp USub int" => (refine r_neg ?_; intro _ _)
  k_with "newTuple" => (refine' r_tuple ?zS ?zz ?_; (case zS => assumption); (case zz => exact Nat.le_of_ble_eq_true rfl); k_extra "my swap"; intro _ _ _ _)
  k_with "newList" => (refine' r_list ?zS ?zz ?_; (case zS => assumption); (case zz => exact Nat.le_of_ble_eq_true rfl); k_extra "my swap"; intro _ _ _ _)
  k_with "ite" => first | (refine PySem.W.ite_pos ?za ?_; (case za => k_extra "my dec")) | (refine PySem.W.ite_neg ?za ?_; (case za => k_extra "my dec")) | (refine split_dec ?_ ?_ <;> intro _) | (refine split_bool ?_ ?_ <;> intro _)
  k_with "my entered" => ((case C => assumption); (case S => assumption); (case k6 => k_is); (case k7 => k_is); (case kn => first | (refine up1 (by assumption) ?_; exact rfl) | omega); (case k9 => first | exact BindsTo.of_eq rfl | exact binds_K (Fx.inn (by assumption) (by assumption)) rfl (by k_is) rfl rfl rfl); (case kB => exact locs rfl); (case kD => decide); (case c2 => exact rfl); (case c3 => exact rfl); (case c4 => exact rfl); (case c5 => decide); k_extra "my swap"; intro _ _ _ _ _ _ _ _ _ _; (try dsimp only); k_extra "my fold")
  k_with "execs cons" => (refine wpAny_execs_cons ?_; (try k_extra "my fold"))
  k_with "execs nil" => refine wpAny_execs_nil ?_
  k_with "exec If" => refine wpAny_If ?_
  k_with "isTrue Compare" => refine wpAny_isTrue_Compare1 ?_
  k_with "exec Return some" => refine wpAny_Return_some ?_
  k_with "eval BinOp" => refine wpAny_BinOp ?_
  k_with "truthy bool" => refine wpAny_truthy_bool ?_
  k_with "getMethod ref" => (k_dflt (refine' r_lmeth ?zS ?zm ?zs ?zt ?_; (case zS => assumption); (case zm => k_mem); (case zs => first | exact PySem.F.slot_list_append | exact PySem.F.slot_list_pop | exact PySem.F.slot_list_index); (case zt => first | exact PySem.F.type_list_append | exact PySem.F.type_list_pop | exact PySem.F.type_list_index); k_whole))
  k_with "LeaveS" => ((try dsimp only); (refine' leaveS ?zS ?_; (case zS => assumption)); k_extra "my swap"; intro _; (try dsimp only [flowV]))
  k_with "exec Assign" => (k_dflt (first
    | (refine' r_assignN ?zhe ?zhs ?_; (case zhe => assumption); (case zhs => exact rfl); k_whole)
    | (refine' r_assignT ?zhe ?zhs ?zhw ?_; (case zhe => assumption); (case zhs => exact rfl); (case zhw => exact rfl); k_whole)
    | (refine' r_assignTS ?zhe ?zhs ?zhw ?_; (case zhe => assumption); (case zhs => exact rfl); (case zhw => exact rfl); k_whole)
    | (refine' plainObj_wpAny_Assign_Attribute ?_ ?zhs; (case zhs => exact rfl); k_whole)
    | (refine' wpAny_Assign_Subscript ?_ ?zhs; (case zhs => exact rfl); k_whole)))
  k_with "assign Tuple" => (k_dflt (refine' r_unpack ?zC ?zS ?zm ?zk1 ?zk2 ?_; (case zC => assumption); (case zS => assumption); (case zm => k_mem); (case zk1 => exact rfl); (case zk2 => exact rfl); k_whole); k_extra "my swap"; intro _ _; dsimp only [assignEach, List.map])
  k_with "assignInOrder" => first | refine assignInOrder_nil ?_ | refine assignInOrder_cons ?_
  k_with "assign Name" => refine assign_Name ?_
  k_with "unpackItems ref" => (k_dflt (refine' r_unpackItems ?zC ?zS ?zm ?zk1 ?_; (case zC => assumption); (case zS => assumption); (case zm => k_mem); (case zk1 => exact rfl); k_whole); k_extra "my swap"; intro _ _; dsimp only [List.reverse, List.reverseAux, List.map])
  k_with "bindName" => refine r_bindName ?_
  k_with "my sel" => first | exact Sel.head | (refine' Sel.tail ?zsel; (case zsel => k_extra "my sel"))
  k_with "my sub" => first
    | exact Sub.refl
    | (refine' Sub.take Sel.head ?zrest; (case zrest => k_extra "my sub"))
    | ((fail_if_success (refine' Sub.probe ?zpra ?zprm; (case zprm => k_mem))); refine' Sub.skip ?zrest; (case zrest => k_extra "my sub"))
    | (refine' Sub.take ?zsel ?zrest; (case zsel => k_extra "my sel"); (case zrest => k_extra "my sub"))
    | (refine' Sub.skip ?zrest; (case zrest => k_extra "my sub"))
  k_with "getAttr ref" => (k_dflt (refine' r_getR ?zS ?zX ?zh1 ?zh2 ?zho ?zhg ?zhh ?zha ?zhn ?zhl ?zhv ?_; (case zS => assumption); (case zX => assumption); (case zh1 => k_mem); (case zh2 => k_mem); (case zho => assumption); (case zhg => k_is); (case zhh => k_is); (case zha => k_is); (case zhn => k_is); (case zhl => exact rfl); (case zhv => exact rfl); k_whole); intro _)
  k_with "setAttr ref" => (k_dflt (refine' r_setR ?zS ?zX ?zh1 ?zU ?zho ?zhs ?zhp ?zht ?zhh ?zhz ?_; (case zS => assumption); (case zX => assumption); (case zh1 => k_mem); (case zU => k_extra "my spot"); (case zho => first | assumption | exact rec_nil); (case zhs => k_is); (case zhp => k_is); (case zht => k_is); (case zhh => k_is); (case zhz => exact Nat.le_of_ble_eq_true rfl); k_whole); k_extra "my swap"; intro _ _ _ _ _; (try (rename St _ _ _ _ _ => zzS; (try dsimp only at zzS); revert zzS; intro _)))
  k_with "getMethod ref" => (k_dflt (refine' r_methR ?zS ?zX ?zh1 ?zh2 ?zho ?zhg ?zhf ?zht ?zhl ?_; (case zS => assumption); (case zX => assumption); (case zh1 => k_mem); (case zh2 => k_mem); (case zho => assumption); (case zhg => k_is); (case zhf => k_is); (case zht => k_is); (case zhl => exact rfl); k_whole))
  k_with "call builtin:list.append" => (k_dflt (refine' r_appendL ?zS ?zU ?zz ?_; (case zS => assumption); (case zU => k_extra "my spot"); (case zz => omega); k_whole); k_extra "my swap"; intro _ _ _ _; (try (rename St _ _ _ _ _ => zzS; (try dsimp only at zzS); revert zzS; intro _)))
  k_with "exec Expr" => (k_dflt (refine' r_expr ?zhe ?zhi ?zhs ?_; (case zhe => assumption); (case zhi => exact rfl); (case zhs => exact rfl); k_whole))
  k_with "call builtin:len" => (k_dflt (refine' r_lenL ?zS ?zm ?zz ?_; (case zS => assumption); (case zm => k_mem); (case zz => (try simp only [List.length_append, List.length_cons, List.length_nil]); omega); k_whole); intro _ _)
  k_with "call builtin:list.pop" => (k_dflt ((with_reducible show wpAny _ _ (call (Value.builtin _) [Value.ref _, Value.int _ _]) _ _ _); refine' r_pop0L ?zS ?zU ?zne ?zz ?_; (case zS => assumption); (case zU => k_extra "my spot"); (case zne => simp; done); (case zz => (try simp only [List.length_append, List.length_cons, List.length_nil]); omega); k_whole); k_extra "my swap"; intro _ _ _ _ _; (try (rename St _ _ _ _ _ => zzS; (try dsimp only at zzS); revert zzS; intro _)))
  k_with "callWith ref" => (k_dflt (first
    | (refine' r_callWith ?zX ?zhk ?_; (case zX => exact Fx.X (by assumption)); (case zhk => k_is); k_whole)
    | (refine' r_callWith0 ?zC ?zS ?zhk ?_; (case zC => assumption); (case zS => assumption); (case zhk => k_is); k_whole)))
  k_with "And" => ((with_reducible show Frag.In _ _ ∧ _); k_dflt (refine' r_kin ?zC ?zS ?_; (case zC => assumption); (case zS => assumption)); try dsimp only [List.nil_append, List.cons_append])
  k_with "my swapD" => ((try (rename Deck _ _ _ _ _ => so; clear so)))
  k_with "call type:range" => (k_dflt (refine' r_rangeN ?zS ?zz ?_; (case zS => assumption); (case zz => omega); k_whole); k_extra "my swap"; intro _ _ _ _ _ _ _ _)
  k_with "subscriptTail" => (k_dflt (first
    | (refine' r_itemL ?zS ?zm ?za ?zb ?zx ?_ ?zhs; (case zS => assumption); (case zm => k_mem); (case za => decide); (case zb => decide); (case zx => exact rfl); (case zhs => exact rfl); k_whole)
    | (refine' r_itemT ?zS ?zm ?za ?zb ?zx ?_ ?zhs; (case zS => assumption); (case zm => k_mem); (case za => decide); (case zb => decide); (case zx => exact rfl); (case zhs => exact rfl); k_whole)
    | (refine' r_menuB ?zC ?zS ?zl ?zb ?za ?zc ?zd ?_ ?zhs; (case zC => assumption); (case zS => assumption); (case zl => k_is); (case zb => exact rfl); (case za => omega); (case zc => (simp only [List.length_cons, List.length_nil]); omega); (case zd => decide); (case zhs => exact rfl); k_whole; intro _ _)))
  k_with "binaryOp Add ref ref" => (k_dflt (refine' r_addL ?zS ?za ?zb ?zz ?_; (case zS => assumption); (case za => k_mem); (case zb => k_mem); (case zz => (try simp only [List.length_append, List.length_cons, List.length_nil]); omega); k_whole); k_extra "my swap"; intro _ _ _ _)
  k_with "call type:tuple" => (k_dflt (refine' r_tupleOf ?zS ?za ?zz ?_; (case zS => assumption); (case za => k_mem); (case zz => (try simp only [List.length_append, List.length_cons, List.length_nil]); omega); k_whole); k_extra "my swap"; intro _ _ _ _)
  k_with "my slice" => (k_dflt (refine' r_sliceL ?zS ?zm ?zpl ?zpu ?zhs ?zht ?zhz ?_; (case zS => assumption); (case zm => k_mem); (case zpl => first | exact .none | exact .int _ _); (case zpu => first | exact .none | exact .int _ _); (case zhs => exact rfl); (case zht => exact fun _ => rfl); (case zhz => (try simp only [List.length_append, List.length_cons, List.length_nil]); omega); k_whole); k_extra "my swap"; intro _ _ _ _)
  k_with "eval Dict nil nil" => (k_dflt (refine' r_newDict ?zC ?zS ?_; (case zC => assumption); (case zS => assumption); k_whole); k_extra "my swap"; intro _ _ _ _ _ _ _)
  k_with "my slice" => ((fail_if_success (with_reducible show wpAny _ _ (subscriptTail (PySem.Expr.Name _ _) _ _ _) _ _ _)); k_dflt (refine kba_turn (value' := PySem.Expr.Name (PySem.Str.ofString "_") ⟨0, 0, 0, 0⟩) (fun _ => rfl) ?_); k_extra "my slice")
  k_with "my stop" => first
    | (with_reducible show wpAny _ _ (subscriptTail _ _ (Value.ref _) (Value.ref _)) _ _ _)
    | (with_reducible show wpAny _ _ (setItem (Value.ref _) (Value.ref _) _) _ _ _)
    | (with_reducible show wpAny _ _ (call (Value.builtin "dict.pop") _) _ _ _)
    | (with_reducible show wpAny _ _ (call (Value.builtin "dict.get") _) _ _ _)
    | (with_reducible show wpAny _ _ (call (Value.builtin "list.index") _) _ _ _)
    | (with_reducible show wpAny _ _ (compareOp _ (Value.ref _) (Value.ref _)) _ _ _)
    | (with_reducible show wpAny _ _ (pyIter (Value.ref _)) _ _ _)
  k_with "my fold" => (refine foldQ ?_; intro _ _)
  k_with "my unfold" => first | ((rename ∀ (_ : Flow) (_ : Shared), _ → _ => hq; refine hq _ _ ?_; clear hq); (rename Flow → Shared → Prop => q; clear q); (try dsimp only)) | ((rename ∀ (_ : Value) (_ : Shared), _ → _ => hq; refine hq _ _ ?_; clear hq); (rename Value → Shared → Prop => q; clear q); (try dsimp only))
  k_with "my step" => first
    | ((with_reducible show wpAny _ _ (subscriptTail _ _ (Value.ref _) (Value.ref (Array.size _))) _ _ _); k_extra "my slice")
    | ((with_reducible show wpAny _ _ (exec _ _) (NextIs _) _ _); k_extra "my fold")
    | ((fail_if_success k_extra "my stop"); first | walk1 | (dsimp only; walk1) | k_extra "my unfold")
  k_with "my go" => repeat' k_extra "my step"
  k_with "my goIf" => repeat' ((fail_if_success (with_reducible show wpAny _ _ (exec (Stmt.If _ _ _ _) _) _ _ _)); k_extra "my step")
  k_with "my goFor" => repeat' ((fail_if_success (with_reducible show wpAny _ _ (exec (Stmt.For _ _ _ _ _) _) _ _ _)); k_extra "my step")
  k_with "binaryOp LShift int int" => (refine r_shl ?za ?zb ?zc ?_; (case za => omega); (case zb => omega); (case zc => omega); intro _ _)
  k_with "binaryOp BitOr int int" => (refine r_or ?_; intro _ _)
  trivial

theorem lines_R2_0 : True := by
  k_with "my mem" => first | k_mem | assumption | (refine List.Mem.tail _ ?ztl; (case ztl => k_extra "my mem"))
  k_with "getAttr ref" => (k_dflt (refine' r_getR ?zS ?zX ?zh1 ?zh2 ?zho ?zhg ?zhh ?zha ?zhn ?zhl ?zhv ?_; (case zS => assumption); (case zX => assumption); (case zh1 => k_extra "my mem"); (case zh2 => k_extra "my mem"); (case zho => assumption); (case zhg => k_is); (case zhh => k_is); (case zha => k_is); (case zhn => k_is); (case zhl => exact rfl); (case zhv => exact rfl); k_whole); intro _)
  k_with "getMethod ref" => (k_dflt (refine' r_methR ?zS ?zX ?zh1 ?zh2 ?zho ?zhg ?zhf ?zht ?zhl ?_; (case zS => assumption); (case zX => assumption); (case zh1 => k_extra "my mem"); (case zh2 => k_extra "my mem"); (case zho => assumption); (case zhg => k_is); (case zhf => k_is); (case zht => k_is); (case zhl => exact rfl); k_whole))
  k_with "compareOp Eq str str" => (refine r_eqsP (fun _ => ?_) (fun _ => ?_))
  k_with "compareOp NotEq str str" => (refine r_nesP (fun _ => ?_) (fun _ => ?_))
  k_with "compareOp In int ref" => (k_dflt (refine' r_inI (ns := [11, 14, 16, 17]) ?zS ?zha ?zhi ?_ ?_; (case zS => assumption); (case zha => k_mem); (case zhi => exact .cons _ _ (.cons _ _ (.cons _ _ (.cons _ _ .nil)))); k_whole) <;> intro _)
  k_with "getMethod ref" => (k_dflt (refine' r_dmeth (bk := siKind PySem.Challenge.rw_og0239_01.row.prog _) ?zS ?zm ?zH ?zs ?zt ?_; (case zS => assumption); (case zm => k_extra "my mem"); (case zH => assumption); (case zs => first | exact PySem.F.slot_dict_pop | exact PySem.F.slot_dict_get); (case zt => first | exact PySem.F.type_dict_pop | exact PySem.F.type_dict_get); k_whole))
  k_with "call type:list" => (k_dflt (refine' r_keysOf (knd := tupleKind (siKind PySem.Challenge.rw_og0239_01.row.prog _)) ?zC ?zS ?zm ?zH ?zsys ?zz ?_; (case zC => assumption); (case zS => assumption); (case zm => k_extra "my mem"); (case zH => assumption); (case zsys => assumption); (case zz => omega); k_whole); k_extra "my swap"; intro _ _ _ _ _)
  k_with "subscriptTail" => (k_dflt (refine' r_itemT ?zS ?zm ?za ?zb ?zx ?_ ?zhs; (case zS => assumption); (case zm => k_extra "my mem"); (case za => decide); (case zb => decide); (case zx => exact rfl); (case zhs => exact rfl); k_whole))
  k_with "eval Name" => ((with_reducible show wpAny _ _ (eval (PySem.Expr.Name _ _) (compEnvC _ _ _ _)) _ _ _); k_dflt (refine' rcb_cell ?zS ?zhc ?zhm ?zho ?zhk ?zhx ?zhd ?_; (case zhk => assumption); (case zhc => with_reducible assumption); (case zhx => with_reducible assumption); (case zS => assumption); (case zhm => k_extra "my mem"); (case zho => assumption); (case zhd => decide); k_whole))
  k_with "eval Name" => ((with_reducible show wpAny _ _ (eval (PySem.Expr.Name (PySem.Str.ofString "one") _) (compEnvC _ _ _ _)) _ _ _); k_dflt (refine' rcb_local ?zS ?zhm ?zhoC ?zhv ?zhk ?zhx ?zhd ?_; (case zhk => assumption); (case zhx => with_reducible assumption); (case zS => assumption); (case zhoC => assumption); (case zhm => k_extra "my mem"); (case zhv => assumption); (case zhd => decide); k_whole))
  trivial
open PyProof.Rows.LCg PyProof.Rows.LCt
theorem due_el {w : World} {A : Around} {n : Nat} {g h : Heap} {env : Env} {L cb cf ck kn Cc I2 D2 ka : Addr} {ob of ok okn oC oI : Obj} {m m₂ : Str → Option Value} {l2 : List (Addr × Obj)} {s₀ : Shared} {t : Nat} {us : List Value} {ys : List (SK × Addr × Value)}
    {wo : Str} {nu f b : Int} {tf tb : Tok} {p1 p2 p3 p4 p5 p6 p7 p8 p9 : Pos} {scope : Scope} {ccl : List (Str × Addr)} {pl : Sem Bool} {Y : Value → Shared → Prop}
    (C : Fx (Mine.hd.heap_39 w.params) A n g env L) (hn : n ≤ 53) (S : St g L h m ((I2, oI) :: (Cc, oC) :: (D2, lst us) :: l2)) (hoC : NsObj oC m₂) (hm2 : m₂ (Str.ofString "one") = some (.ref ka)) (hka : KeyAt l2 wo nu ka) (hv : VK wo nu) (mK : (kn, okn) ∈ l2) (mC : (ck, ok) ∈ l2) (mF : (cf, of) ∈ l2) (mB : (cb, ob) ∈ l2)
    (dk : ok.data = .cell (some (.ref kn))) (df : of.data = .cell (some (.int f tf))) (db : ob.data = .cell (some (.int b tb))) (hsys : (kn == sysModules) = false) (H2 : DH (tupleKind (siKind PG w)) okn ys) (hks : KeysL (siKind PG w) l2 ys) (hg : Good ys)
    (hkd : scope.kind = .function) (hk1 : scope.names.lookup (Str.ofString "one") = some .local) (hk2 : (compEnvC scope ccl Cc env).kindOf (Str.ofString "known") = some .cell) (hk3 : (compEnvC scope ccl Cc env).kindOf (Str.ofString "fore") = some .cell) (hk4 : (compEnvC scope ccl Cc env).kindOf (Str.ofString "back") = some .cell)
    (hk5 : (compEnvC scope ccl Cc env).kindOf (Str.ofString "_law_first") = some .globalImplicit) (hgl : env.globals = mainGlobals)
    (he : eval (.Call (.Attribute (.Name (Str.ofString "known") p1) (Str.ofString "get") p2) [.Name (Str.ofString "one") p3, .Call (.Name (Str.ofString "_law_first") p4) [.Name (Str.ofString "one") p5, .Name (Str.ofString "fore") p6, .Name (Str.ofString "back") p7] [] p8] [] p9) (compEnvC scope ccl Cc env) = (do
      let ov ← eval (.Name (Str.ofString "known") p1) (compEnvC scope ccl Cc env)
      standAt p2.atName
      let (f, first) ← holding [ov] (getMethod ov (Str.ofString "get") pl)
      callWith p9 f first (backTo p9 (starEach [.Name (Str.ofString "one") p3, .Call (.Name (Str.ofString "_law_first") p4) [.Name (Str.ofString "one") p5, .Name (Str.ofString "fore") p6, .Name (Str.ofString "back") p7] [] p8] (compEnvC scope ccl Cc env))) []))
    (hc1 : ccl.lookup (Str.ofString "known") = some ck) (hc2 : ccl.lookup (Str.ofString "fore") = some cf) (hc3 : ccl.lookup (Str.ofString "back") = some cb)
    (hY : ∀ h' t' v tk, v = valAt ys wo nu f b → St g L h' m ((I2, oI) :: (Cc, oC) :: (D2, lst us) :: l2) → Y (.int v tk) (sg s₀ h' t')) :
    wpAny (model PySem.Challenge.rw_og0239_01.row.prog w) A (eval (.Call (.Attribute (.Name (Str.ofString "known") p1) (Str.ofString "get") p2) [.Name (Str.ofString "one") p3, .Call (.Name (Str.ofString "_law_first") p4) [.Name (Str.ofString "one") p5, .Name (Str.ofString "fore") p6, .Name (Str.ofString "back") p7] [] p8] [] p9) (compEnvC scope ccl Cc env)) Y (fun _ _ => False) (sg s₀ h t) := by
  revert C; k_fill; intro C
  have up : ∀ p ∈ l2, p ∈ (I2, oI) :: (Cc, oC) :: (D2, lst us) :: l2 := fun p hp => .tail _ (.tail _ (.tail _ hp))
  refine MethodCall_ (pl := pl) ?_ he
  k_extra "my go"
  refine rc_glob C (fun b o e => S.old e) (by k_is) hkd hk5 hgl (by decide) ?_
  k_extra "my go"
  rename St _ _ _ _ _ => S
  refine r_call (lawfirst_code C hn S (hka.mono up) hv ?_)
  clear S
  intro h t v tk ev S
  dsimp only [CallBack]
  k_extra "my go"
  rename St _ _ _ _ _ => S
  refine r_kget2 C (by omega) S (up _ mK) H2 (hks.mono up) hg (hka.mono up) hsys fun i ti t' ei => ?_
  exact hY _ _ _ _ (by rw [ei, ev]; rfl) S
noncomputable def DueSrc (s₀ : Shared) (g : Heap) (L : Addr) (m : Str → Option Value) (l : List (Addr × Obj)) (v : Value) (s : Shared) : Prop :=
  ∃ a k1 k2 h' t' N, v = .ref a ∧ s = sg s₀ h' t' ∧ St g L h' m (N ++ l) ∧ (a, tupO [.ref k1, .ref k2]) ∈ N ++ l ∧ KeyAt (N ++ l) sDyn 10 k1 ∧ KeyAt (N ++ l) sDyn 11 k2
/-- the comprehension over the two dynamic colours -/
theorem due_comp {w : World} {A : Around} {n : Nat} {g h : Heap} {env : Env} {L cb cf ck kn : Addr} {ob of ok okn : Obj} {m : Str → Option Value} {l T : List (Addr × Obj)} {s₀ : Shared} {t : Nat} {ys : List (SK × Addr × Value)}
    {f b : Int} {tf tb : Tok} {iter : PySem.Expr} {p1 p2 p3 p4 p5 p6 p7 p8 p9 p10 p11 : Pos} {scope : Scope} {ccl : List (Str × Addr)} {pl : Addr → Sem Bool} {Q : Value → Shared → Prop} {E : Value → Shared → Prop}
    (hclos : closureFor scope env = pure ccl) (hcell : ∀ y ∈ scope.names, y.2 ≠ .cell) (hkd : scope.kind = .function)
    (hnames : ∀ y ∈ scope.names, y.2 = .local → scope.names.lookup y.1 = some .local) (hx : scope.names.lookup (Str.ofString "one") = some .local) (hs : ∀ x, foldedSetIterable iter env x = pure x)
    (hk2 : ∀ Cc, (compEnvC scope ccl Cc env).kindOf (Str.ofString "known") = some .cell) (hk3 : ∀ Cc, (compEnvC scope ccl Cc env).kindOf (Str.ofString "fore") = some .cell) (hk4 : ∀ Cc, (compEnvC scope ccl Cc env).kindOf (Str.ofString "back") = some .cell)
    (hk5 : ∀ Cc, (compEnvC scope ccl Cc env).kindOf (Str.ofString "_law_first") = some .globalImplicit) (hgl : env.globals = mainGlobals)
    (he : ∀ Cc, eval (.Call (.Attribute (.Name (Str.ofString "known") p1) (Str.ofString "get") p2) [.Name (Str.ofString "one") p3, .Call (.Name (Str.ofString "_law_first") p4) [.Name (Str.ofString "one") p5, .Name (Str.ofString "fore") p6, .Name (Str.ofString "back") p7] [] p8] [] p9) (compEnvC scope ccl Cc env) = (do
      let ov ← eval (.Name (Str.ofString "known") p1) (compEnvC scope ccl Cc env)
      standAt p2.atName
      let (f, first) ← holding [ov] (getMethod ov (Str.ofString "get") (pl Cc))
      callWith p9 f first (backTo p9 (starEach [.Name (Str.ofString "one") p3, .Call (.Name (Str.ofString "_law_first") p4) [.Name (Str.ofString "one") p5, .Name (Str.ofString "fore") p6, .Name (Str.ofString "back") p7] [] p8] (compEnvC scope ccl Cc env))) []))
    (hc1 : ccl.lookup (Str.ofString "known") = some ck) (hc2 : ccl.lookup (Str.ofString "fore") = some cf) (hc3 : ccl.lookup (Str.ofString "back") = some cb)
    (C : Fx (Mine.hd.heap_39 w.params) A n g env L) (hn : n ≤ 53) (mK : (kn, okn) ∈ l) (mC : (ck, ok) ∈ l) (mF : (cf, of) ∈ l) (mB : (cb, ob) ∈ l) (hT : ∀ p ∈ T, p ∈ l)
    (dk : ok.data = .cell (some (.ref kn))) (df : of.data = .cell (some (.int f tf))) (db : ob.data = .cell (some (.int b tb))) (hsys : (kn == sysModules) = false) (H2 : DH (tupleKind (siKind PG w)) okn ys) (hk : KeysL (siKind PG w) T ys) (hg : Good ys)
    (hit : wpAny (model PySem.Challenge.rw_og0239_01.row.prog w) A (eval iter env) (DueSrc s₀ g L m l) E (sg s₀ h t))
    (hQ : ∀ D t1 t2 h' t' N, St g L h' m ((D, lst [.int (valAt ys sDyn 10 f b) t1, .int (valAt ys sDyn 11 f b) t2]) :: (N ++ l)) → Q (.ref D) (sg s₀ h' t')) :
    wpAny (model PySem.Challenge.rw_og0239_01.row.prog w) A (eval (.ListComp (.Call (.Attribute (.Name (Str.ofString "known") p1) (Str.ofString "get") p2) [.Name (Str.ofString "one") p3, .Call (.Name (Str.ofString "_law_first") p4) [.Name (Str.ofString "one") p5, .Name (Str.ofString "fore") p6, .Name (Str.ofString "back") p7] [] p8] [] p9) [⟨.Name (Str.ofString "one") p10, iter, [], 0⟩] scope p11) env) Q E (sg s₀ h t) := by
  refine r_compU (g := g) (L := L) (m := m) (ccl := ccl) hclos hcell hkd hnames hx hs (wpAny_mono hit ?_ fun _ _ e => e)
  rintro v s₁ ⟨a, k1, k2, h', t', N, rfl, rfl, S, hm, hka1, hka2⟩
  refine ⟨_, _, N ++ l, _, _, _, fun j us l2 => l2 = N ++ l ∧ Paired (fun (k : Int) v => ∃ tk, v = Value.int (valAt ys sDyn k f b) tk) (([10, 11] : List Int).take j) us, rfl, S, src_tuple C S hm, Nat.le_of_ble_eq_true rfl, ?hkp, ⟨rfl, .nil⟩, ?turn, ?done⟩
  case hkp => rintro _ _ _ ⟨rfl, _⟩; exact hm
  case turn =>
    clear S
    rintro j v us l2 I2 oI2 Cc oC D2 m₂ h t hj hv hoC hm2 ⟨rfl, hps⟩ S
    have up : ∀ p ∈ l, p ∈ N ++ l := fun p hp => List.mem_append_right _ hp
    obtain ⟨nu, ka, rfl, hka, hnu⟩ : ∃ (nu : Int) (ka : Addr), v = .ref ka ∧ KeyAt (N ++ l) sDyn nu ka ∧ ([10, 11] : List Int)[j]? = some nu := by
      rcases j with _ | _ | j
      · exact ⟨10, k1, by simpa using hv.symm, hka1, rfl⟩
      · exact ⟨11, k2, by simpa using hv.symm, hka2, rfl⟩
      · have hj : j + 1 + 1 < 2 := hj
        omega
    refine due_el (wo := sDyn) C hn S hoC hm2 hka (fun q => absurd q (by decide)) (up _ mK) (up _ mC) (up _ mF) (up _ mB) dk df db hsys H2 (hk.mono fun p hp => up _ (hT _ hp)) hg hkd hx (hk2 _) (hk3 _) (hk4 _) (hk5 _) hgl (he _) hc1 hc2 hc3 fun h' t' v tk ev S => ?_
    refine block_S (l' := []) (N ++ l) S .refl ⟨rfl, ?_⟩
    rw [List.take_add_one, hnu]
    exact Paired.snoc hps ⟨tk, by rw [ev]⟩
  case done =>
    clear S
    rintro D2 h t us l2 S ⟨rfl, hps⟩
    have hps : Paired (fun (k : Int) v => ∃ tk, v = Value.int (valAt ys sDyn k f b) tk) [10, 11] us := hps
    cases hps with
    | cons x1 r =>
      cases r with
      | cons x2 r =>
        cases r
        obtain ⟨t1, rfl⟩ := x1
        obtain ⟨t2, rfl⟩ := x2
        exact hQ D2 t1 t2 h t N S

end
section
theorem lines_T9 : True := by
  k_with_none
  k_with "subscriptTail" => ((fail_if_success (with_reducible show wpAny _ _ (subscriptTail (PySem.Expr.Name _ _) _ _ _) _ _ _)); k_dflt (refine kba_turn (value' := PySem.Expr.Name (PySem.Str.ofString "_") ⟨0, 0, 0, 0⟩) (fun _ => rfl) ?_))
  k_with "my spot" => first | exact Spot.head | (refine' Spot.tail ?zspt; (case zspt => k_extra "my spot"))
  k_with "my swap" => ((try (rename St _ _ _ _ _ => so; clear so)))
  k_with "my subl" => first | exact List.Sublist.refl _ | (refine List.Sublist.cons_cons _ ?_; k_extra "my subl") | (refine List.Sublist.cons _ ?_; k_extra "my subl")
  k_with "my dec" => first | assumption | decide | omega | ((simp only [decide_eq_true_eq, decide_eq_false_iff_not, beq_iff_eq, bne_iff_ne, ne_eq, Bool.not_eq_true, Bool.not_eq_false, Bool.not_eq_true', Bool.not_eq_false', beq_eq_false_iff_ne, bne_eq_false_iff_eq]); omega) | (simp_all; done)
  k_with "eval Name" => (k_dflt (first
    | (refine' r_local ?zhe ?zS ?zv ?zk ?zx ?zd ?_; (case zhe => assumption); (case zS => assumption); (case zv => first | exact rfl | assumption); (case zk => exact rfl); (case zx => exact rfl); (case zd => decide); k_whole)
    | (refine' r_global ?zhe ?zC ?zS ?ze ?zk ?zx ?zd ?_; (case zhe => assumption); (case zC => assumption); (case zS => assumption); (case ze => k_is); (case zk => exact rfl); (case zx => exact rfl); (case zd => decide); k_whole)
    | (refine' r_builtin ?zhe ?zC ?zS ?ze ?zv ?zn ?zk ?zx ?zd ?_; (case zhe => assumption); (case zC => assumption); (case zS => assumption); (case ze => k_is); (case zv => boot_by_name); (case zn => decide); (case zk => exact rfl); (case zx => exact rfl); (case zd => decide); k_whole)))
  k_with "storeName" => (k_dflt (refine' r_store ?zhe ?zS ?zk ?zx ?_; (case zhe => assumption); (case zS => assumption); (case zk => exact rfl); (case zx => exact rfl); k_whole); k_extra "my swap"; intro _ _ _)
  k_with "eval Constant int" => (refine r_cint ?_; intro _ _)
  k_with "eval Constant str" => (refine r_cstr ?_; intro _ _)
  k_with "eval Constant bytes" => (refine r_cbytes ?_; intro _ _)
  k_with "eval Constant bool" => (refine r_cbool ?_)
  k_with "eval Constant none" => (refine r_cnone ?_)
  k_with "binaryOp Add int int" => (refine r_add ?_; intro _ _)
  k_with "binaryOp Sub int int" => (refine r_sub ?_; intro _ _)
  k_with "binaryOp Mult int int" => (refine r_mul ?za ?_; (case za => mul_fits); intro _ _)
  k_with "binaryOp Mod int int" => (refine r_mod ?za ?_; (case za => first | decide | omega | assumption); intro _ _)
  k_with "binaryOp FloorDiv int int" => (refine r_fdiv ?za ?zb ?_; (case za => first | decide | omega); (case zb => first | decide | omega); intro _ _)
  k_with "compareOp Eq int int" => (refine r_eq ?_)
  k_with "compareOp NotEq int int" => (refine r_ne ?_)
  k_with "compareOp Lt int int" => (refine r_lt ?_)
  k_with "compareOp LtE int int" => (refine r_le ?_)
  k_with "compareOp Gt int int" => (refine r_gt ?_)
  k_with "compareOp GtE int int" => (refine r_ge ?_)
  k_with "unaryOp USub int" => (refine r_neg ?_; intro _ _)
  k_with "newTuple" => (refine' r_tuple ?zS ?zz ?_; (case zS => assumption); (case zz => exact Nat.le_of_ble_eq_true rfl); k_extra "my swap"; intro _ _ _ _)
  k_with "newList" => (refine' r_list ?zS ?zz ?_; (case zS => assumption); (case zz => exact Nat.le_of_ble_eq_true rfl); k_extra "my swap"; intro _ _ _ _)
  k_with "ite" => first | (refine PySem.W.ite_pos ?za ?_; (case za => k_extra "my dec")) | (refine PySem.W.ite_neg ?za ?_; (case za => k_extra "my dec")) | (refine split_dec ?_ ?_ <;> intro _) | (refine split_bool ?_ ?_ <;> intro _)
  k_with "my entered" => ((case C => assumption); (case S => assumption); (case k6 => k_is); (case k7 => k_is); (case kn => first | (refine up1 (by assumption) ?_; exact rfl) | omega); (case k9 => first | exact BindsTo.of_eq rfl | exact binds_K (Fx.inn (by assumption) (by assumption)) rfl (by k_is) rfl rfl rfl); (case kB => exact locs rfl); (case kD => decide); (case c2 => exact rfl); (case c3 => exact rfl); (case c4 => exact rfl); (case c5 => decide); k_extra "my swap"; intro _ _ _ _ _ _ _ _ _ _; (try dsimp only); k_extra "my fold")
  k_with "execs cons" => (refine wpAny_execs_cons ?_; (try k_extra "my fold"))
  k_with "execs nil" => refine wpAny_execs_nil ?_
  k_with "exec If" => refine wpAny_If ?_
  k_with "isTrue Compare" => refine wpAny_isTrue_Compare1 ?_
  k_with "exec Return some" => refine wpAny_Return_some ?_
  k_with "eval BinOp" => refine wpAny_BinOp ?_
  k_with "truthy bool" => refine wpAny_truthy_bool ?_
  k_with "getMethod ref" => (k_dflt (refine' r_lmeth ?zS ?zm ?zs ?zt ?_; (case zS => assumption); (case zm => k_mem); (case zs => first | exact PySem.F.slot_list_append | exact PySem.F.slot_list_pop | exact PySem.F.slot_list_index); (case zt => first | exact PySem.F.type_list_append | exact PySem.F.type_list_pop | exact PySem.F.type_list_index); k_whole))
  k_with "LeaveS" => ((try dsimp only); (refine' leaveS ?zS ?_; (case zS => assumption)); k_extra "my swap"; intro _; (try dsimp only [flowV]))
  k_with "exec Assign" => (k_dflt (first
    | (refine' r_assignN ?zhe ?zhs ?_; (case zhe => assumption); (case zhs => exact rfl); k_whole)
    | (refine' r_assignT ?zhe ?zhs ?zhw ?_; (case zhe => assumption); (case zhs => exact rfl); (case zhw => exact rfl); k_whole)
    | (refine' r_assignTS ?zhe ?zhs ?zhw ?_; (case zhe => assumption); (case zhs => exact rfl); (case zhw => exact rfl); k_whole)
    | (refine' plainObj_wpAny_Assign_Attribute ?_ ?zhs; (case zhs => exact rfl); k_whole)
    | (refine' wpAny_Assign_Subscript ?_ ?zhs; (case zhs => exact rfl); k_whole)))
  k_with "assign Tuple" => (k_dflt (refine' r_unpack ?zC ?zS ?zm ?zk1 ?zk2 ?_; (case zC => assumption); (case zS => assumption); (case zm => k_mem); (case zk1 => exact rfl); (case zk2 => exact rfl); k_whole); k_extra "my swap"; intro _ _; dsimp only [assignEach, List.map])
  k_with "assignInOrder" => first | refine assignInOrder_nil ?_ | refine assignInOrder_cons ?_
  k_with "assign Name" => refine assign_Name ?_
  k_with "unpackItems ref" => (k_dflt (refine' r_unpackItems ?zC ?zS ?zm ?zk1 ?_; (case zC => assumption); (case zS => assumption); (case zm => k_mem); (case zk1 => exact rfl); k_whole); k_extra "my swap"; intro _ _; dsimp only [List.reverse, List.reverseAux, List.map])
  k_with "bindName" => refine r_bindName ?_
  k_with "my sel" => first | exact Sel.head | (refine' Sel.tail ?zsel; (case zsel => k_extra "my sel"))
  k_with "my sub" => first
    | exact Sub.refl
    | (refine' Sub.take Sel.head ?zrest; (case zrest => k_extra "my sub"))
    | ((fail_if_success (refine' Sub.probe ?zpra ?zprm; (case zprm => k_mem))); refine' Sub.skip ?zrest; (case zrest => k_extra "my sub"))
    | (refine' Sub.take ?zsel ?zrest; (case zsel => k_extra "my sel"); (case zrest => k_extra "my sub"))
    | (refine' Sub.skip ?zrest; (case zrest => k_extra "my sub"))
  k_with "getAttr ref" => (k_dflt (refine' r_getR ?zS ?zX ?zh1 ?zh2 ?zho ?zhg ?zhh ?zha ?zhn ?zhl ?zhv ?_; (case zS => assumption); (case zX => assumption); (case zh1 => k_mem); (case zh2 => k_mem); (case zho => assumption); (case zhg => k_is); (case zhh => k_is); (case zha => k_is); (case zhn => k_is); (case zhl => exact rfl); (case zhv => exact rfl); k_whole); intro _)
  k_with "setAttr ref" => (k_dflt (refine' r_setR ?zS ?zX ?zh1 ?zU ?zho ?zhs ?zhp ?zht ?zhh ?zhz ?_; (case zS => assumption); (case zX => assumption); (case zh1 => k_mem); (case zU => k_extra "my spot"); (case zho => first | assumption | exact rec_nil); (case zhs => k_is); (case zhp => k_is); (case zht => k_is); (case zhh => k_is); (case zhz => exact Nat.le_of_ble_eq_true rfl); k_whole); k_extra "my swap"; intro _ _ _ _ _; (try (rename St _ _ _ _ _ => zzS; (try dsimp only at zzS); revert zzS; intro _)))
  k_with "getMethod ref" => (k_dflt (refine' r_methR ?zS ?zX ?zh1 ?zh2 ?zho ?zhg ?zhf ?zht ?zhl ?_; (case zS => assumption); (case zX => assumption); (case zh1 => k_mem); (case zh2 => k_mem); (case zho => assumption); (case zhg => k_is); (case zhf => k_is); (case zht => k_is); (case zhl => exact rfl); k_whole))
  k_with "call builtin:list.append" => (k_dflt (refine' r_appendL ?zS ?zU ?zz ?_; (case zS => assumption); (case zU => k_extra "my spot"); (case zz => omega); k_whole); k_extra "my swap"; intro _ _ _ _; (try (rename St _ _ _ _ _ => zzS; (try dsimp only at zzS); revert zzS; intro _)))
  k_with "exec Expr" => (k_dflt (refine' r_expr ?zhe ?zhi ?zhs ?_; (case zhe => assumption); (case zhi => exact rfl); (case zhs => exact rfl); k_whole))
  k_with "call builtin:len" => (k_dflt (refine' r_lenL ?zS ?zm ?zz ?_; (case zS => assumption); (case zm => k_mem); (case zz => (try simp only [List.length_append, List.length_cons, List.length_nil]); omega); k_whole); intro _ _)
  k_with "call builtin:list.pop" => (k_dflt ((with_reducible show wpAny _ _ (call (Value.builtin _) [Value.ref _, Value.int _ _]) _ _ _); refine' r_pop0L ?zS ?zU ?zne ?zz ?_; (case zS => assumption); (case zU => k_extra "my spot"); (case zne => simp; done); (case zz => (try simp only [List.length_append, List.length_cons, List.length_nil]); omega); k_whole); k_extra "my swap"; intro _ _ _ _ _; (try (rename St _ _ _ _ _ => zzS; (try dsimp only at zzS); revert zzS; intro _)))
  k_with "callWith ref" => (k_dflt (first
    | (refine' r_callWith ?zX ?zhk ?_; (case zX => exact Fx.X (by assumption)); (case zhk => k_is); k_whole)
    | (refine' r_callWith0 ?zC ?zS ?zhk ?_; (case zC => assumption); (case zS => assumption); (case zhk => k_is); k_whole)))
  k_with "And" => ((with_reducible show Frag.In _ _ ∧ _); k_dflt (refine' r_kin ?zC ?zS ?_; (case zC => assumption); (case zS => assumption)); try dsimp only [List.nil_append, List.cons_append])
  k_with "my swapD" => ((try (rename Deck _ _ _ _ _ => so; clear so)))
  k_with "call type:range" => (k_dflt (refine' r_rangeN ?zS ?zz ?_; (case zS => assumption); (case zz => omega); k_whole); k_extra "my swap"; intro _ _ _ _ _ _ _ _)
  k_with "subscriptTail" => (k_dflt (first
    | (refine' r_itemL ?zS ?zm ?za ?zb ?zx ?_ ?zhs; (case zS => assumption); (case zm => k_mem); (case za => decide); (case zb => decide); (case zx => exact rfl); (case zhs => exact rfl); k_whole)
    | (refine' r_itemT ?zS ?zm ?za ?zb ?zx ?_ ?zhs; (case zS => assumption); (case zm => k_mem); (case za => decide); (case zb => decide); (case zx => exact rfl); (case zhs => exact rfl); k_whole)
    | (refine' r_menuB ?zC ?zS ?zl ?zb ?za ?zc ?zd ?_ ?zhs; (case zC => assumption); (case zS => assumption); (case zl => k_is); (case zb => exact rfl); (case za => omega); (case zc => (simp only [List.length_cons, List.length_nil]); omega); (case zd => decide); (case zhs => exact rfl); k_whole; intro _ _)))
  k_with "binaryOp Add ref ref" => (k_dflt (refine' r_addL ?zS ?za ?zb ?zz ?_; (case zS => assumption); (case za => k_mem); (case zb => k_mem); (case zz => (try simp only [List.length_append, List.length_cons, List.length_nil]); omega); k_whole); k_extra "my swap"; intro _ _ _ _)
  k_with "call type:tuple" => (k_dflt (refine' r_tupleOf ?zS ?za ?zz ?_; (case zS => assumption); (case za => k_mem); (case zz => (try simp only [List.length_append, List.length_cons, List.length_nil]); omega); k_whole); k_extra "my swap"; intro _ _ _ _)
  k_with "my slice" => (k_dflt (refine' r_sliceL ?zS ?zm ?zpl ?zpu ?zhs ?zht ?zhz ?_; (case zS => assumption); (case zm => k_mem); (case zpl => first | exact .none | exact .int _ _); (case zpu => first | exact .none | exact .int _ _); (case zhs => exact rfl); (case zht => exact fun _ => rfl); (case zhz => (try simp only [List.length_append, List.length_cons, List.length_nil]); omega); k_whole); k_extra "my swap"; intro _ _ _ _)
  k_with "eval Dict nil nil" => (k_dflt (refine' r_newDict ?zC ?zS ?_; (case zC => assumption); (case zS => assumption); k_whole); k_extra "my swap"; intro _ _ _ _ _ _ _)
  k_with "my slice" => ((fail_if_success (with_reducible show wpAny _ _ (subscriptTail (PySem.Expr.Name _ _) _ _ _) _ _ _)); k_dflt (refine kba_turn (value' := PySem.Expr.Name (PySem.Str.ofString "_") ⟨0, 0, 0, 0⟩) (fun _ => rfl) ?_); k_extra "my slice")
  k_with "my stop" => first
    | (with_reducible show wpAny _ _ (subscriptTail _ _ (Value.ref _) (Value.ref _)) _ _ _)
    | (with_reducible show wpAny _ _ (setItem (Value.ref _) (Value.ref _) _) _ _ _)
    | (with_reducible show wpAny _ _ (call (Value.builtin "dict.pop") _) _ _ _)
    | (with_reducible show wpAny _ _ (call (Value.builtin "dict.get") _) _ _ _)
    | (with_reducible show wpAny _ _ (call (Value.builtin "list.index") _) _ _ _)
    | (with_reducible show wpAny _ _ (compareOp _ (Value.ref _) (Value.ref _)) _ _ _)
    | (with_reducible show wpAny _ _ (pyIter (Value.ref _)) _ _ _)
  k_with "my fold" => (refine foldQ ?_; intro _ _)
  k_with "my unfold" => first | ((rename ∀ (_ : Flow) (_ : Shared), _ → _ => hq; refine hq _ _ ?_; clear hq); (rename Flow → Shared → Prop => q; clear q); (try dsimp only)) | ((rename ∀ (_ : Value) (_ : Shared), _ → _ => hq; refine hq _ _ ?_; clear hq); (rename Value → Shared → Prop => q; clear q); (try dsimp only))
  k_with "my step" => first
    | ((with_reducible show wpAny _ _ (subscriptTail _ _ (Value.ref _) (Value.ref (Array.size _))) _ _ _); k_extra "my slice")
    | ((with_reducible show wpAny _ _ (exec _ _) (NextIs _) _ _); k_extra "my fold")
    | ((fail_if_success k_extra "my stop"); first | walk1 | (dsimp only; walk1) | k_extra "my unfold")
  k_with "my go" => repeat' k_extra "my step"
  k_with "my goIf" => repeat' ((fail_if_success (with_reducible show wpAny _ _ (exec (Stmt.If _ _ _ _) _) _ _ _)); k_extra "my step")
  k_with "my goFor" => repeat' ((fail_if_success (with_reducible show wpAny _ _ (exec (Stmt.For _ _ _ _ _) _) _ _ _)); k_extra "my step")
  k_with "binaryOp LShift int int" => (refine r_shl ?za ?zb ?zc ?_; (case za => omega); (case zb => omega); (case zc => omega); intro _ _)
  k_with "binaryOp BitOr int int" => (refine r_or ?_; intro _ _)
  trivial

theorem lines_T9_0 : True := by
  k_with "my mem" => first | k_mem | assumption | (refine List.Mem.tail _ ?ztl; (case ztl => k_extra "my mem"))
  k_with "getAttr ref" => (k_dflt (refine' r_getR ?zS ?zX ?zh1 ?zh2 ?zho ?zhg ?zhh ?zha ?zhn ?zhl ?zhv ?_; (case zS => assumption); (case zX => assumption); (case zh1 => k_extra "my mem"); (case zh2 => k_extra "my mem"); (case zho => assumption); (case zhg => k_is); (case zhh => k_is); (case zha => k_is); (case zhn => k_is); (case zhl => exact rfl); (case zhv => exact rfl); k_whole); intro _)
  k_with "getMethod ref" => (k_dflt (refine' r_methR ?zS ?zX ?zh1 ?zh2 ?zho ?zhg ?zhf ?zht ?zhl ?_; (case zS => assumption); (case zX => assumption); (case zh1 => k_extra "my mem"); (case zh2 => k_extra "my mem"); (case zho => assumption); (case zhg => k_is); (case zhf => k_is); (case zht => k_is); (case zhl => exact rfl); k_whole))
  k_with "compareOp Eq str str" => (refine r_eqsP (fun _ => ?_) (fun _ => ?_))
  k_with "compareOp NotEq str str" => (refine r_nesP (fun _ => ?_) (fun _ => ?_))
  k_with "compareOp In int ref" => (k_dflt (refine' r_inI (ns := [11, 14, 16, 17]) ?zS ?zha ?zhi ?_ ?_; (case zS => assumption); (case zha => k_mem); (case zhi => exact .cons _ _ (.cons _ _ (.cons _ _ (.cons _ _ .nil)))); k_whole) <;> intro _)
  k_with "getMethod ref" => (k_dflt (refine' r_dmeth (bk := siKind PySem.Challenge.rw_og0239_01.row.prog _) ?zS ?zm ?zH ?zs ?zt ?_; (case zS => assumption); (case zm => k_extra "my mem"); (case zH => assumption); (case zs => first | exact PySem.F.slot_dict_pop | exact PySem.F.slot_dict_get); (case zt => first | exact PySem.F.type_dict_pop | exact PySem.F.type_dict_get); k_whole))
  k_with "call type:list" => (k_dflt (refine' r_keysOf (knd := tupleKind (siKind PySem.Challenge.rw_og0239_01.row.prog _)) ?zC ?zS ?zm ?zH ?zsys ?zz ?_; (case zC => assumption); (case zS => assumption); (case zm => k_extra "my mem"); (case zH => assumption); (case zsys => assumption); (case zz => omega); k_whole); k_extra "my swap"; intro _ _ _ _ _)
  k_with "subscriptTail" => (k_dflt (refine' r_itemT ?zS ?zm ?za ?zb ?zx ?_ ?zhs; (case zS => assumption); (case zm => k_extra "my mem"); (case za => decide); (case zb => decide); (case zx => exact rfl); (case zhs => exact rfl); k_whole))
  k_with "call ref" => (k_dflt (refine' r_call (draw_code ?zC ?zn (St.bring2 ?zS ?zs1 ?zs2) ?zD ?zk ?_); (case zC => assumption); (case zD => assumption); (case zn => first | (refine up1 (by assumption) ?_; exact rfl) | omega); (case zS => assumption); (case zs1 => k_extra "my sel"); (case zs2 => k_extra "my sel"); (case zk => decide); k_whole); k_extra "my swap"; k_extra "my swapD"; intro _ _ _ _ _ _ _ _ _ _; dsimp only [CallBack])
  k_with "eval Call" => ((with_reducible show wpAny _ _ (eval (PySem.Expr.Call (PySem.Expr.Name (PySem.Str.ofString "_law_draw") _) _ _ _) _) _ _ _); k_dflt (refine' r_draw ?zhe ?zC ?zn ?zS ?zv ?zk1 ?zx1 ?zx2 ?zs1 ?zs2 ?zD ?zk ?_; (case zhe => assumption); (case zC => assumption); (case zD => assumption); (case zn => first | (refine up1 (by assumption) ?_; exact rfl) | omega); (case zS => assumption); (case zv => first | exact rfl | assumption); (case zk1 => exact rfl); (case zx1 => exact rfl); (case zx2 => exact rfl); (case zs1 => k_extra "my sel"); (case zs2 => k_extra "my sel"); (case zk => decide); k_whole); k_extra "my swap"; k_extra "my swapD"; intro _ _ _ _ _ _ _ _ _ _ _ _)
  k_with "eval Name" => (k_dflt (refine' r_cell ?zhe ?zS ?zhc ?zhm ?zhd ?zhk ?zhx ?zhb ?_; (case zhe => assumption); (case zS => assumption); (case zhc => exact rfl); (case zhm => k_extra "my mem"); (case zhd => assumption); (case zhk => exact rfl); (case zhx => exact rfl); (case zhb => decide); k_whole))
  k_with "storeName" => (k_dflt (refine' r_storeC ?zhe ?zS ?zhc ?zU ?zhd ?zhk ?zhx ?_; (case zhe => assumption); (case zS => assumption); (case zhc => exact rfl); (case zU => k_extra "my spot"); (case zhd => assumption); (case zhk => exact rfl); (case zhx => exact rfl); k_whole); k_extra "my swap"; intro _ _ _ _ _; (try (rename St _ _ _ _ _ => zzS; (try dsimp only at zzS); revert zzS; intro _)))
  k_with "assign Tuple" => (k_dflt (refine' r_unpack ?zC ?zS ?zm ?zk1 ?zk2 ?_; (case zC => assumption); (case zS => assumption); (case zm => k_extra "my mem"); (case zk1 => exact rfl); (case zk2 => exact rfl); k_whole); k_extra "my swap"; intro _ _; dsimp only [assignEach, List.map])
  k_with "call ref" => (k_dflt (refine' r_make (fI := 93) ?zC ?zS ?zhm ?zhi ?zhf ?_; (case zC => assumption); (case zS => assumption); (case zhm => k_is); (case zhi => k_is); (case zhf => k_is); k_whole); k_extra "my swap"; intro _ _ _ _ _ _; refine' pinit_code ?zC ?zn ?zS ?_; (case zC => assumption); (case zn => first | (refine up1 (by assumption) ?_; exact rfl) | omega); (case zS => assumption); (rename St _ _ _ _ _ => zzS; clear zzS); (rename Fx _ _ _ _ _ _ => zzC; clear zzC); intro _ _ _ _ _ _ _ _; dsimp only [InitBack, CallBack])
  k_with "eval Call Attribute" => (refine foldQ ?_; intro zzq zzh; refine PyProof.Rows.MethodCall_ ?_)
  trivial
noncomputable abbrev KK (w : World) := tupleKind (siKind PG w)
inductive CJ (w : World) (f b : Int) (cw ck cb cf d c x dx ch : Addr) (ob of lod : Obj) (l : List (Addr × Obj)) (i : Nat) (m : Str → Option Value) (l' : List (Addr × Obj)) : Prop
  | mk (od oc ow ok och : Obj) (kn : Addr) (okn : Obj) (xs ys : List (SK × Addr × Value)) (T : List (Addr × Obj)) (wv : Option Value) (q1 : m (Str.ofString "deck") = some (.ref d)) (q2 : m (Str.ofString "palette") = some (.ref x))
    (hD : Deck PG w od oc c) (dk : ok.data = .cell (some (.ref kn))) (dw : ow.data = .cell wv) (hs : (kn == sysModules) = false) (H : DH (KK w) och xs) (H2 : DH (KK w) okn ys) (hk : KeysL (siKind PG w) T xs) (hk2 : KeysL (siKind PG w) T ys)
    (hg : Good xs) (hg2 : Good ys) (ha : Agree xs ys f b) (hz : xs.length ≤ i) (hz2 : ys.length ≤ i) (hT : l.Sublist T) (e : l' = (cw, ow) :: (ck, ok) :: (cb, ob) :: (cf, of) :: (d, od) :: (c, oc) :: (x, instObj 138 dx) :: (dx, lod) :: (ch, och) :: (kn, okn) :: T) : CJ w f b cw ck cb cf d c x dx ch ob of lod l i m l'
/-- behind a deed -/
inductive CM (w : World) (f b : Int) (cw : Addr) (ow : Obj) (ck cb : Addr) (ob : Obj) (cf : Addr) (of : Obj) (d : Addr) (od : Obj) (c : Addr) (oc : Obj) (x dx : Addr) (lod : Obj) (ch I : Addr) (o₁ : Obj) (l : List (Addr × Obj)) (kd : Addr) (r : Int) (tr : Tok) (wd : Str) (ku : Int) (i : Nat) (m : Str → Option Value) (l' : List (Addr × Obj)) : Prop
  | mk (ok och : Obj) (kn : Addr) (okn : Obj) (xs ys : List (SK × Addr × Value)) (T' : List (Addr × Obj)) (q1 : m (Str.ofString "deck") = some (.ref d)) (q2 : m (Str.ofString "palette") = some (.ref x)) (q3 : m (Str.ofString "key") = some (.ref kd)) (q5 : m (Str.ofString "rgb") = some (.int r tr))
    (dk : ok.data = .cell (some (.ref kn))) (hs : (kn == sysModules) = false) (H : DH (KK w) och xs) (H2 : DH (KK w) okn ys) (hk : KeysL (siKind PG w) T' xs) (hk2 : KeysL (siKind PG w) T' ys) (hg : Good xs) (hg2 : Good ys) (ha : Agree xs ys f b) (hz : xs.length ≤ i + 1) (hz2 : ys.length ≤ i + 1) (hT : l.Sublist T') (hka : KeyAt T' wd ku kd)
    (e : l' = (I, o₁) :: (cw, ow) :: (ck, ok) :: (cb, ob) :: (cf, of) :: (d, od) :: (c, oc) :: (x, instObj 138 dx) :: (dx, lod) :: (ch, och) :: (kn, okn) :: T') : CM w f b cw ow ck cb ob cf of d od c oc x dx lod ch I o₁ l kd r tr wd ku i m l'
/-- behind the palette's first colours -/
inductive MA (w : World) (cw ck cf cb d c : Addr) (ow ok : Obj) (l : List (Addr × Obj)) (m : Str → Option Value) (l' : List (Addr × Obj)) : Prop
  | mk (ob of od oc : Obj) (f b : Int) (tf tb : Tok) (q1 : m (Str.ofString "deck") = some (.ref d)) (D : Deck PG w od oc c) (df : of.data = .cell (some (.int f tf))) (db : ob.data = .cell (some (.int b tb))) (e : l' = (cw, ow) :: (ck, ok) :: (cb, ob) :: (cf, of) :: (d, od) :: (c, oc) :: l) : MA w cw ck cf cb d c ow ok l m l'
/-- behind the word -/
inductive MB (w : World) (cw ck cb cf d c x dx ch kn I : Addr) (ob of lod och ok okn o₁ : Obj) (T : List (Addr × Obj)) (m : Str → Option Value) (l' : List (Addr × Obj)) : Prop
  | mk (od oc ow : Obj) (wd : Str) (tw : Tok) (q1 : m (Str.ofString "deck") = some (.ref d)) (q2 : m (Str.ofString "palette") = some (.ref x)) (D : Deck PG w od oc c) (dw : ow.data = .cell (some (.str wd tw))) (e : l' = (I, o₁) :: (cw, ow) :: (ck, ok) :: (cb, ob) :: (cf, of) :: (d, od) :: (c, oc) :: (x, instObj 138 dx) :: (dx, lod) :: (ch, och) :: (kn, okn) :: T) : MB w cw ck cb cf d c x dx ch kn I ob of lod och ok okn o₁ T m l'
/-- behind the way and the colour -/
inductive MD (w : World) (cw ck cb cf d c x dx ch kn I : Addr) (ow ob of lod och ok okn o₁ : Obj) (kd : Addr) (T : List (Addr × Obj)) (m : Str → Option Value) (l' : List (Addr × Obj)) : Prop
  | mk (od oc : Obj) (wy : Int) (twy : Tok) (r : Int) (tr : Tok) (q1 : m (Str.ofString "deck") = some (.ref d)) (q2 : m (Str.ofString "palette") = some (.ref x)) (q3 : m (Str.ofString "key") = some (.ref kd)) (q4 : m (Str.ofString "way") = some (.int wy twy)) (q5 : m (Str.ofString "rgb") = some (.int r tr)) (h0 : 0 ≤ r)
    (D : Deck PG w od oc c) (e : l' = (I, o₁) :: (cw, ow) :: (ck, ok) :: (cb, ob) :: (cf, of) :: (d, od) :: (c, oc) :: (x, instObj 138 dx) :: (dx, lod) :: (ch, och) :: (kn, okn) :: T) : MD w cw ck cb cf d c x dx ch kn I ow ob of lod och ok okn o₁ kd T m l'
/-- names and ledger as they were -/
inductive ME (d x kd : Addr) (r : Int) (tr : Tok) (l0 : List (Addr × Obj)) (m : Str → Option Value) (l' : List (Addr × Obj)) : Prop
  | mk (q1 : m (Str.ofString "deck") = some (.ref d)) (q2 : m (Str.ofString "palette") = some (.ref x)) (q3 : m (Str.ofString "key") = some (.ref kd)) (q5 : m (Str.ofString "rgb") = some (.int r tr)) (e : l' = l0) : ME d x kd r tr l0 m l'
theorem cutE {prog : Program} {w : World} {A : Around} {E Q : Value → Shared → Prop} {s : Shared} {x : Sem Value} (Mid : Value → Shared → Prop) (hx : wpAny (model prog w) A x Mid E s) (k : ∀ v s', Mid v s' → Q v s') : wpAny (model prog w) A x Q E s := wpAny_mono hx k fun _ _ e => e
theorem lines_T9_1 : True := by
  k_with "my stop" => (with_reducible show wpAny _ _ (eval (PySem.Expr.IfExp _ _ _ _) _) _ _ _)
  k_with "my stop" => (with_reducible show wpAny _ _ (exec (PySem.Stmt.Assign [PySem.Expr.Name _ _] (PySem.Expr.Tuple _ _ _) _) _) _ _ _)
  k_with "my stop" => (with_reducible show wpAny _ _ (exec (PySem.Stmt.Assign [PySem.Expr.Tuple _ _ _] (PySem.Expr.Tuple _ _ _) _) _) _ _ _)
  trivial
section
variable {prog : Program} {w : World} {A : Around} {E Q : Value → Shared → Prop} {h : Heap} {s₀ : Shared} {t : Nat} {a b : Int} {ta tb : Tok}
theorem r_neS (e : a = b) (hQ : Q (.bool false) (sg s₀ h t)) : wpAny (model prog w) A (compareOp .NotEq (.int a ta) (.int b tb)) Q E (sg s₀ h t) := by
  refine r_ne ?_
  subst e
  rw [bne_self_eq_false]
  exact hQ
end

theorem lines_T9_2 : True := by
  k_with "compareOp NotEq int int" => (with_reducible refine r_neS rfl ?_)
  k_with "my stop" => first
    | (with_reducible show wpAny _ _ (eval (PySem.Expr.ListComp _ _ _ _) _) _ _ _)
    | (with_reducible show wpAny _ _ (call (Value.type "dict") _) _ _ _)
    | (with_reducible show wpAny _ _ (call (Value.builtin "sorted") _) _ _ _)
    | (with_reducible show wpAny _ _ (call (Value.ref 100) _) _ _ _)
    | (with_reducible show wpAny _ _ (call (Value.ref 107) _) _ _ _)
    | (with_reducible show wpAny _ _ (call (Value.ref 114) _) _ _ _)
    | (with_reducible show wpAny _ _ (call (Value.ref 121) _) _ _ _)
    | (with_reducible show wpAny _ _ (call (Value.ref 128) _) _ _ _)
    | (with_reducible show wpAny _ _ (call (Value.ref 135) _) _ _ _)
    | (with_reducible show wpAny _ _ (call (Value.ref 216) _) _ _ _)
  trivial
theorem colours_code {w : World} {A : Around} {n : Nat} {g h : Heap} {env : Env} {L d c : Addr} {m : Str → Option Value} {l : List (Addr × Obj)} {s₀ : Shared} {t : Nat} {od oc : Obj} {R : Result → Shared → Prop}
    (C : Fx (Mine.hd.heap_39 w.params) A n g env L) (hn : n ≤ 40) (S : St g L h m ((d, od) :: (c, oc) :: l)) (D : Deck PySem.Challenge.rw_og0239_01.row.prog w od oc c)
    (hR : ∀ h' t' od' oc', Deck PySem.Challenge.rw_og0239_01.row.prog w od' oc' c → St g L h' m ((d, od') :: (c, oc') :: l) → R (.ok (.ret (.bool true))) (sg s₀ h' t')) :
    codeAny (model PySem.Challenge.rw_og0239_01.row.prog w) A (.call (.ref 221) ⟨[.ref d], []⟩) R (sg s₀ h t) := by
  revert C; k_fill; intro C
  refine' enterC [Str.ofString "deck"] ?C ?S ?k6 ?k7 ?kn ?k9 ?kB ?kD ?kE ?kF ?kG ?_ ?c2 ?c3 ?c4
  (case C => assumption)
  (case S => assumption)
  (case k6 => k_is)
  (case k7 => k_is)
  (case kn => first | (refine up1 (by assumption) ?_; exact rfl) | omega)
  (case k9 => first | exact BindsTo.of_eq rfl | exact binds_K (Fx.inn (by assumption) (by assumption)) rfl (by k_is) rfl rfl rfl)
  (case kB => exact locs rfl)
  (case kD => decide)
  (case kE => decide)
  (case kF => intro L'; funext y; rfl)
  (case kG => intro L'; rfl)
  (case c2 => exact rfl)
  (case c3 => exact rfl)
  (case c4 => exact rfl)
  clear S
  intro g' L' h t env' A' cells he st C' hc hN hF hl hd
  have hc' : CellsAre (fun _ => none) [(Str.ofString "word", L' + 1 + 1 + 1 + 1), (Str.ofString "known", L' + 1 + 1 + 1), (Str.ofString "back", L' + 1 + 1), (Str.ofString "fore", L' + 1)] cells := hc
  replace he : env' = envX _ _ L' 221 _ [(Str.ofString "word", L' + 1 + 1 + 1 + 1), (Str.ofString "known", L' + 1 + 1 + 1), (Str.ofString "back", L' + 1 + 1), (Str.ofString "fore", L' + 1)] := he
  clear hc
  obtain ⟨ow, ok, ob, of, rfl, dw, dk, db, df⟩ := PyProof.Rows.CellsAre.four hc'
  have S := st_cells hF hN hl hd (Nat.lt_succ_self _) (Nat.lt_succ_self _) (Nat.lt_succ_self _) (Nat.lt_succ_self _)
  clear hc' hN hF hl hd
  generalize L' + 1 + 1 + 1 + 1 = cw at *
  generalize L' + 1 + 1 + 1 = ck at *
  generalize L' + 1 + 1 = cb at *
  generalize L' + 1 = cf at *
  (try dsimp only at dw dk db df)
  k_extra "my fold"
  walk1
  refine cutS (MidG s₀ g' L' (MA w cw ck cf cb d c ow ok l)) ?_ ?_
--<1
  · k_extra "my go"
    rename St _ _ _ _ _ => S
    refine r_menuL S (by k_extra "my mem") (by assumption) (by assumption) (Nat.le_of_ble_eq_true rfl) (fun v hv => ?_) rfl
    rcases List.mem_cons.mp hv with rfl | hv
    · clear hv
      k_extra "my go"
      rename St _ _ _ _ _ => S
      refine' mid_G _ S ?sub ⟨_, _, _, _, _, _, _, _, rfl, ?D, ?ef, ?eb, rfl⟩
      case sub => k_extra "my sub"
      case D => assumption
      case ef => assumption
      case eb => assumption
    · obtain rfl := List.mem_singleton.mp hv
      clear hv
      k_extra "my go"
      rename St _ _ _ _ _ => S
      refine' mid_G _ S ?sub ⟨_, _, _, _, _, _, _, _, rfl, ?D, ?ef, ?eb, rfl⟩
      case sub => k_extra "my sub"
      case D => assumption
      case ef => assumption
      case eb => assumption
--1>
  clear S D db df
  rintro s' ⟨h, t, m, l', rfl, S, ⟨ob, of, od, oc, f, b, tf, tb, q1, D, df, db, rfl⟩⟩
  k_extra "my goFor"
  walk1
  k_extra "my goFor"
  rename_i x dx _ _ ch _ _ lod och ho hemp kn _ _ okn hsys hemp2 _ _ _ _ _ _ _ _ ok dk2 S _ _
  refine' r_for ?he ?hk ?hx ?hs g' ?_
  (case he => assumption)
  (case hk => exact rfl)
  (case hx => exact rfl)
  (case hs => exact fun _ => rfl)
  k_extra "my go"
  rename_i _ _ _ r2 _ _ _ od2 oc2 v0 v1 hD2 _ _ _ _ _ _ _ _ hr S
  have S := S.subS (l' := (cw, ow) :: (ck, ok) :: (cb, ob) :: (cf, of) :: (d, od2) :: (c, oc2) :: (x, instObj 138 dx) :: (dx, lod) :: (ch, och) :: (kn, okn) :: l) (by k_extra "my sub")
  refine' iter_range (fun i m l' => CJ w f b cw ck cb cf d c x dx ch ob of lod l i m l') (by assumption) C'.hnd hr ?hk S ?hj ?turn ?done
  case hk => omega
  case hj => exact ⟨od2, oc2, ow, ok, och, kn, okn, [], [], l, none, q1, rfl, hD2, dk2, dw, hsys, hemp.dh, hemp2.dh, (fun _ h => nomatch h), (fun _ h => nomatch h), (fun _ h => nomatch h), (fun _ h => nomatch h), fun _ _ => rfl, Nat.le_refl _, Nat.le_refl _, List.Sublist.refl _, rfl⟩
  case done =>
    clear S
    rintro h t m l' S ⟨od, oc, ow, ok, och, kn, okn, xs, ys, T, wv, q1, q2, hD, dk, dw, hsys, H, H2, hk, hk2, hg, hg2, hag, hz, hz2, hT, rfl⟩
    k_extra "my go"
    rename St _ _ _ _ _ => S
    refine hR _ _ _ _ hD ((S.subS (l' := (d, od) :: (c, oc) :: T) ?sub).subl (hT.cons_cons _ |>.cons_cons _))
    case sub => k_extra "my sub"
  case turn =>
    clear S hemp hemp2 hD2 hr dk2 q1 dw
    rintro i v m₁ l₁ h₁ t₁ I o₁ hi ⟨ti, rfl⟩ ⟨od, oc, ow, ok, och, kn, okn, xs, ys, T, wv, q1, q2, hD, dk, dw, hsys, H, H2, hk, hk2, hg, hg2, hag, hz, hz2, hT, rfl⟩ S
    k_extra "my fold"
    walk1
    refine cutS (MidG s₀ g' L' (MB w cw ck cb cf d c x dx ch kn I ob of lod och ok okn o₁ T)) ?_ ?_
--<2
    · k_extra "my go"
      rename St _ _ _ _ _ => S
      refine r_menuL S (by k_extra "my mem") (by assumption) (by assumption) (Nat.le_of_ble_eq_true rfl) (fun v hv => ?_) rfl
      obtain ⟨wd, tw, rfl⟩ : ∃ wd tw, v = Value.str wd tw := by
        rcases List.mem_cons.mp hv with rfl | hv
        · exact ⟨_, _, rfl⟩
        rcases List.mem_cons.mp hv with rfl | hv
        · exact ⟨_, _, rfl⟩
        obtain rfl := List.mem_singleton.mp hv
        exact ⟨_, _, rfl⟩
      clear hv
      k_extra "my go"
      rename St _ _ _ _ _ => S
      refine' mid_G _ S ?sub ⟨_, _, _, _, _, q1, q2, ?D, ?ef, rfl⟩
      case sub => k_extra "my sub"
      case D => assumption
      case ef => assumption
--2>
    clear S hD dw q1 q2
    rintro s' ⟨h, t, m, l', rfl, S, ⟨od, oc, ow, wd, tw, q1, q2, hD, dw, rfl⟩⟩
    k_extra "my go"
    rename_i nu tnu _ _ od3 oc3 _ _ hD3 h t S _ _
    refine cutS (MidG s₀ g' L' fun m l' => ∃ kd ku tk, m (Str.ofString "deck") = some (.ref d) ∧ m (Str.ofString "palette") = some (.ref x) ∧ m (Str.ofString "key") = some (.ref kd) ∧ VK wd ku ∧ l' = (I, o₁) :: (cw, ow) :: (ck, ok) :: (cb, ob) :: (cf, of) :: (d, od3) :: (c, oc3) :: (x, instObj 138 dx) :: (dx, lod) :: (ch, och) :: (kn, okn) :: (kd, tupO [.str wd tw, .int ku tk]) :: T) ?_ ?_
--<3
    · walk1
      k_extra "my go"
      refine cutE (fun v s' => ∃ ku tu t', v = Value.int ku tu ∧ VK wd ku ∧ s' = sg s₀ h t') ?_ ?_
      · walk1
        k_extra "my go"
        · exact fun _ => by omega
        · rename wd ≠ _ => e
          walk1
          k_extra "my go"
          · exact fun q => absurd q e
          · exact fun q => absurd q e
      rintro _ _ ⟨ku, tk, t', rfl, hvk, rfl⟩
      k_extra "my go"
      rename St _ _ _ _ _ => S
      refine' mid_G _ S ?sub ⟨_, _, _, q1, q2, rfl, hvk, rfl⟩
      case sub => k_extra "my sub"
--3>
    clear S q1 q2
    rintro s' ⟨h, t, m, l', rfl, S, ⟨kd, ku, tk, q1, q2, q3, hvk, rfl⟩⟩
    k_extra "my go"
    refine cutS (MidG s₀ g' L' (MD w cw ck cb cf d c x dx ch kn I ow ob of lod och ok okn o₁ kd ((kd, tupO [.str wd tw, .int ku tk]) :: T))) ?_ ?_
--<4
    · walk1
      k_extra "my go"
      rename St _ _ _ _ _ => S
      refine r_menuL S (by k_extra "my mem") (by assumption) (by assumption) (Nat.le_of_ble_eq_true rfl) (fun v hv => ?_) rfl
      obtain ⟨r, tr, rfl, h0⟩ : ∃ r tr, v = Value.int r tr ∧ 0 ≤ r := by
        rcases List.mem_cons.mp hv with rfl | hv
        · exact ⟨_, _, rfl, by decide⟩
        rcases List.mem_cons.mp hv with rfl | hv
        · exact ⟨_, _, rfl, by decide⟩
        obtain rfl := List.mem_singleton.mp hv
        exact ⟨_, _, rfl, by decide⟩
      clear hv
      k_extra "my go"
      rename St _ _ _ _ _ => S
      refine' mid_G _ S ?sub ⟨_, _, _, _, _, _, q1, q2, q3, rfl, rfl, h0, ?D, rfl⟩
      case sub => k_extra "my sub"
      case D => assumption
--4>
    clear S hD3 q1 q2 q3
    rintro s' ⟨h, t, m, l', rfl, S, ⟨od, oc, wy, twy, r, tr, q1, q2, q3, q4, q5, hr0, hD, rfl⟩⟩
    obtain ⟨⟨tf0, tb0, hoR⟩, hsysc⟩ := id ho
    have hka : KeyAt ((kd, tupO [.str wd tw, .int ku tk]) :: T) wd ku kd := ⟨tw, tk, .head _⟩
    k_extra "my unfold"
    walk1
    refine cutS (MidG s₀ g' L' (CM w f b cw ow ck cb ob cf of d od c oc x dx lod ch I o₁ l kd r tr wd ku i)) ?_ ?_
--<5
    · k_extra "my go"
      · rename St _ _ _ _ _ => S
        refine' r_call (pput_code (T := (kd, tupO [.str wd tw, .int ku tk]) :: T) C' (up1 hn rfl) (S.bring (p := (ch, och)) ?s1) ?hx ?hdx ho (Sub.mem ?hT) H ?hk hg (by omega) hka hvk ?_)
        case s1 => k_extra "my sel"
        case hx => k_extra "my mem"
        case hdx => k_extra "my mem"
        case hT => k_extra "my sub"
        case hk => exact hk.mono fun p hp => .tail _ hp
        clear S
        intro h t och' xs' H' hk' hg' hz' hv' S
        dsimp only [CallBack]
        k_extra "my go"
        rename St _ _ _ _ _ => S
        refine' r_hset (o := okn) C' (up1 hn rfl) S ?U H2 (KeysL.mono (l := (kd, tupO [.str wd tw, .int ku tk]) :: T) ?hk2 (Sub.mem ?hT)) ((hka.mono (Sub.mem ?hT2)).tup) (by omega) ?_
        case U => k_extra "my spot"
        case hk2 => exact hk2.mono fun p hp => .tail _ hp
        case hT => k_extra "my sub"
        case hT2 => k_extra "my sub"
        clear S
        intro h t okn' H2' S
        (try dsimp only at S)
        k_extra "my go"
        rename St _ _ _ _ _ => S
        refine' mid_G _ S ?sub ⟨_, _, _, _, _, _, (kd, tupO [.str wd tw, .int ku tk]) :: T, q1, q2, q3, q5, dk, hsys, H', H2', hk', ?hkn, hg', hg2.stored hvk kd r tr, fun wo nu => ?ag, by omega, ?ln, hT.cons _, hka, rfl⟩
        case sub => k_extra "my sub"
        case hkn => exact storedH_keysL (hk2.mono fun p hp => .tail _ hp) hka.tup
        case ag => rw [hv', val_stored, hag]
        case ln => exact Nat.le_trans (stored_len _ _ _ _) (by omega)
      · rename St _ _ _ _ _ => S
        refine' r_call (pback_code (T := (kd, tupO [.str wd tw, .int ku tk]) :: T) C' (up1 hn rfl) (S.bring (p := (ch, och)) ?s1) ?hx ?hdx ho (Sub.mem ?hT) H ?hk hg (by omega) hka ?_)
        case s1 => k_extra "my sel"
        case hx => k_extra "my mem"
        case hdx => k_extra "my mem"
        case hT => k_extra "my sub"
        case hk => exact hk.mono fun p hp => .tail _ hp
        clear S
        intro h t och' xs' H' hk' hg' hz' hv' S
        dsimp only [CallBack]
        k_extra "my go"
        rename St _ _ _ _ _ => S
        refine' r_hpopD (o := okn) C' (up1 hn rfl) S ?U H2 (KeysL.mono (l := (kd, tupO [.str wd tw, .int ku tk]) :: T) ?hk2 (Sub.mem ?hT)) ((hka.mono (Sub.mem ?hT2)).tup) (by omega) hsys ?_
        case U => k_extra "my spot"
        case hk2 => exact hk2.mono fun p hp => .tail _ hp
        case hT => k_extra "my sub"
        case hT2 => k_extra "my sub"
        clear S
        intro v h t okn' H2' S
        (try dsimp only at S)
        k_extra "my go"
        rename St _ _ _ _ _ => S
        refine' mid_G _ S ?sub ⟨_, _, _, _, _, _, (kd, tupO [.str wd tw, .int ku tk]) :: T, q1, q2, q3, q5, dk, hsys, H', H2', hk', ?hkn, hg', hg2.sub without_sub, fun wo nu => ?ag, by omega, ?ln, hT.cons _, hka, rfl⟩
        case sub => k_extra "my sub"
        case hkn => exact fun x hx => (hk2 x (without_sub x hx)).mono fun p hp => .tail _ hp
        case ag => rw [hv', val_without, hag]
        case ln => exact Nat.le_trans (without_len _ _) (by omega)
      · rename St _ _ _ _ _ => S
        refine' r_call (pall_code (T := (kd, tupO [.str wd tw, .int ku tk]) :: T) C' (up1 hn rfl) (S.bring (p := (ch, och)) ?s1) ?hx ?hdx ho (Sub.mem ?hT) H ?hk hg (by omega) ?_)
        case s1 => k_extra "my sel"
        case hx => k_extra "my mem"
        case hdx => k_extra "my mem"
        case hT => k_extra "my sub"
        case hk => exact hk.mono fun p hp => .tail _ hp
        clear S
        intro h t och' xs' H' hk' hg' hz' hv' S
        dsimp only [CallBack]
        k_extra "my go"
        rename St _ _ _ _ _ => S
        have S := S.subS (l' := (I, o₁) :: (cw, ow) :: (ck, ok) :: (cb, ob) :: (cf, of) :: (d, od) :: (c, oc) :: (x, instObj 138 dx) :: (dx, lod) :: (ch, och') :: (kn, okn) :: (kd, tupO [.str wd tw, .int ku tk]) :: T) (by k_extra "my sub")
        refine' known_comp (T := (kd, tupO [.str wd tw, .int ku tk]) :: T) (ow := ow) (ok := ok) (okn := okn) (ys := ys) (wd := wd) (tw := tw) (ccl := [(Str.ofString "word", cw), (Str.ofString "known", ck)]) ?hclos ?hcell rfl ?hnames rfl (fun _ => rfl) ?hkk ?hkw rfl rfl C' (up1 hn rfl) S ?mK ?mC ?mW (Sub.mem ?hT) dk dw hsys H2 ?hk hg2 (by omega) ?hit ?_
        case hclos => subst he; exact rfl
        case hcell => decide
        case hnames => decide
        case hkk => subst he; exact fun _ => rfl
        case hkw => subst he; exact fun _ => rfl
        case mK => k_extra "my mem"
        case mC => k_extra "my mem"
        case mW => k_extra "my mem"
        case hT => k_extra "my sub"
        case hk => exact hk2.mono fun p hp => .tail _ hp
        case hit =>
          walk1
          exact ⟨rfl, _, rfl⟩
        clear S
        intro D2 us h t N S hps
        k_extra "my go"
        rename St _ _ _ _ _ => S
        refine' r_dictPairs (bk := siKind PG w) (la := D2) C' (up1 hn rfl) S (.head _) (PairsL.mono hps fun p hp => .tail _ hp) (List.Sublist.nodup (List.Sublist.map (·.1) (List.filter_sublist (p := fun z : SK × Addr × Value => !isWord wd z.1))) H2.nodup) ?hz ?_
        case hz => exact Nat.le_trans (List.length_filter_le _ _) (by omega)
        clear S hps
        intro kn' h t okn' hsys' H2' S
        have S := S.subl (l' := (kn', okn') :: (I, o₁) :: (cw, ow) :: (ck, ok) :: (cb, ob) :: (cf, of) :: (d, od) :: (c, oc) :: (x, instObj 138 dx) :: (dx, lod) :: (ch, och') :: (kn, okn) :: (kd, tupO [.str wd tw, .int ku tk]) :: T) (((List.sublist_append_right N _).cons _).cons_cons _)
        k_extra "my go"
        rename_i ok' dk' S
        refine' mid_G _ S ?sub ⟨ok', _, kn', _, _, _, (kd, tupO [.str wd tw, .int ku tk]) :: T, q1, q2, q3, q5, dk', hsys', H', H2', hk', ?hkn, hg', hg2.sub fun x hx => (List.mem_filter.mp hx).1, fun wo nu => ?ag, by omega, ?ln, hT.cons _, hka, rfl⟩
        case sub => k_extra "my sub"
        case hkn => exact fun x hx => (hk2 x (List.mem_filter.mp hx).1).mono fun p hp => .tail _ hp
        case ag =>
          rw [hv', val_words, hag]
        case ln => exact Nat.le_trans (List.length_filter_le _ _) (by omega)
--5>
    clear S H H2 hk hk2 hg hg2 hag hz hz2 hT hka q1 q2 q3 q4 q5 dk hsys
    rintro s' ⟨h, t, m, l', rfl, S, ⟨ok, och, kn, okn, xs, ys, T', q1, q2, q3, q5, dk, hsys, H, H2, hk, hk2, hg, hg2, hag, hz, hz2, hT, hka, rfl⟩⟩
    obtain ⟨Z, hZ⟩ : ∃ Z, Z = (cw, ow) :: (ck, ok) :: (cb, ob) :: (cf, of) :: (d, od) :: (c, oc) :: (x, instObj 138 dx) :: (dx, lod) :: (ch, och) :: (kn, okn) :: T' := ⟨_, rfl⟩
    have zw : (cw, ow) ∈ Z := by rw [hZ]; k_extra "my mem"
    have zk : (ck, ok) ∈ Z := by rw [hZ]; k_extra "my mem"
    have zb : (cb, ob) ∈ Z := by rw [hZ]; k_extra "my mem"
    have zf : (cf, of) ∈ Z := by rw [hZ]; k_extra "my mem"
    have zx : (x, instObj 138 dx) ∈ Z := by rw [hZ]; k_extra "my mem"
    have zd : (dx, lod) ∈ Z := by rw [hZ]; k_extra "my mem"
    have zc : (ch, och) ∈ Z := by rw [hZ]; k_extra "my mem"
    have zn : (kn, okn) ∈ Z := by rw [hZ]; k_extra "my mem"
    have zT : ∀ p ∈ T', p ∈ Z := by rw [hZ]; exact Sub.mem (by k_extra "my sub")
    rw [← hZ] at S
    k_extra "my goFor"
    refine cutS (MidG s₀ g' L' (ME d x kd r tr ((I, o₁) :: Z))) ?_ ?_
--<6
    · refine' r_for ?he ?hk ?hx ?hs g' ?_
      (case he => assumption)
      (case hk => exact rfl)
      (case hx => exact rfl)
      (case hs => exact fun _ => rfl)
      k_extra "my go"
      rename_i tk1 _ tk2 _ d1 _ _ tk3 _ tk4 _ d2 _ _ dl _ _ S
      refine' r_sortedH C' S ?hm H2 hsys (by omega) ?hko ?_
      case hm => k_extra "my mem"
      case hko =>
        intro y hy
        obtain ⟨wk, nk, _, _, hkey⟩ := key_of hk2 hg2 hy
        exact (hkey.mono (fun p hp => Sub.mem (l' := Z) (by k_extra "my sub") p (zT p hp))).obj
      clear S
      intro us D3 c3 h t hus hvs S
      k_extra "my go"
      rename_i D4 _ _ S
      have S := S.subS (l' := (D4, W.listOf ([Value.ref kd, .ref d1, .ref d2] ++ us).toArray 0) :: (d1, tupO [.str sDyn tk1, .int 10 tk2]) :: (d2, tupO [.str sDyn tk3, .int 11 tk4]) :: (I, o₁) :: Z) (by k_extra "my sub")
      refine' iter_list (fun j m l' => ME d x kd r tr ((D4, W.listOf ([Value.ref kd, .ref d1, .ref d2] ++ us).toArray 0) :: (d1, tupO [.str sDyn tk1, .int 10 tk2]) :: (d2, tupO [.str sDyn tk3, .int 11 tk4]) :: (I, o₁) :: Z) m l') he C'.hnd S ?hfix ⟨q1, q2, q3, q5, rfl⟩ ?turn2 ?done2
      case hfix => rintro j m l' ⟨_, _, _, _, rfl⟩; exact .head _
      case turn2 =>
        clear S q1 q2 q3 q5
        rintro j v m₁ l₁ h₁ t₁ I2 o₂ hj hv ⟨q1, q2, q3, q5, rfl⟩ S
        k_extra "my fold"
        have hTB : ∀ p ∈ T', p ∈ (I2, o₂) :: (D4, W.listOf ([Value.ref kd, .ref d1, .ref d2] ++ us).toArray 0) :: (d1, tupO [.str sDyn tk1, .int 10 tk2]) :: (d2, tupO [.str sDyn tk3, .int 11 tk4]) :: (I, o₁) :: Z := fun p hp => Sub.mem (l' := Z) (by k_extra "my sub") p (zT p hp)
        obtain ⟨wo, nu, ka, rfl, hkA, hvA⟩ : ∃ wo nu ka, v = Value.ref ka ∧ KeyAt ((I2, o₂) :: (D4, W.listOf ([Value.ref kd, .ref d1, .ref d2] ++ us).toArray 0) :: (d1, tupO [.str sDyn tk1, .int 10 tk2]) :: (d2, tupO [.str sDyn tk3, .int 11 tk4]) :: (I, o₁) :: Z) wo nu ka ∧ VK wo nu := by
          have hm : v ∈ [Value.ref kd, .ref d1, .ref d2] ++ us := List.mem_of_getElem? (by simpa using hv)
          rcases List.mem_append.mp hm with hm | hm
          · rcases List.mem_cons.mp hm with rfl | hm
            · exact ⟨wd, ku, kd, rfl, hka.mono hTB, hvk⟩
            rcases List.mem_cons.mp hm with rfl | hm
            · exact ⟨sDyn, 10, d1, rfl, ⟨_, _, by k_extra "my mem"⟩, fun q => absurd q (by decide)⟩
            obtain rfl := List.mem_singleton.mp hm
            exact ⟨sDyn, 11, d2, rfl, ⟨_, _, by k_extra "my mem"⟩, fun q => absurd q (by decide)⟩
          · obtain ⟨y, hy, rfl⟩ := hvs v hm
            obtain ⟨wk, nk, _, hvk2, hkey⟩ := key_of hk2 hg2 hy
            exact ⟨wk, nk, y.2.1, rfl, hkey.mono hTB, hvk2⟩
        clear hv hj hvs hus
        k_extra "my go"
        rename St _ _ _ _ _ => S
        refine r_call (lawfirst_code C' (up1 hn rfl) S hkA hvA ?_)
        clear S
        intro h t v tkv ev S
        obtain rfl := ev
        dsimp only [CallBack]
        k_extra "my go"
        rename St _ _ _ _ _ => S
        refine r_call (pfirst_code C' (up1 hn rfl) S (by k_extra "my mem") (by k_extra "my mem") ho hkA hvA ?_)
        clear S
        intro h t v tkv2 ev S
        obtain rfl := ev
        dsimp only [CallBack]
        k_extra "my go"
        rename St _ _ _ _ _ => S
        refine r_call (prgb_code C' (up1 hn rfl) S (by k_extra "my mem") (by k_extra "my mem") ho (by k_extra "my mem") H (hk.mono hTB) hg hkA hvA ?_)
        clear S
        intro h t v tkv3 ev S
        obtain rfl := ev
        dsimp only [CallBack]
        k_extra "my go"
        rename St _ _ _ _ _ => S
        refine r_kget2 C' (up1 hn rfl) S (by k_extra "my mem") H2 (hk2.mono hTB) hg2 hkA hsys fun i ti t' ei => ?_
        have ei : i = valAt xs wo nu f b := ei.trans (hag wo nu).symm
        subst ei
        k_extra "my go"
        rename St _ _ _ _ _ => S
        refine' turn_S _ S ?sub ⟨q1, q2, q3, q5, rfl⟩
        case sub => k_extra "my sub"
      case done2 =>
        clear S q1 q2 q3 q5
        rintro h t m l' S ⟨q1, q2, q3, q5, rfl⟩
        refine' mid_G _ S ?sub ⟨q1, q2, q3, q5, rfl⟩
        case sub => k_extra "my sub"
--6>
    clear S q1 q2 q3 q5
    rintro s' ⟨h, t, m, l', rfl, S, ⟨q1, q2, q3, q5, rfl⟩⟩
    obtain ⟨tkw, tkn, hkm⟩ := id hka
    replace hkm := zT _ hkm
    have c1 : colV xs (-1) true f b = valAt ys sDyn 10 f b := by
      rw [← hag]; unfold colV; rw [if_neg (by decide), if_neg (by decide), if_pos rfl]
    have c2 : colV xs (-1) false f b = valAt ys sDyn 11 f b := by
      rw [← hag]; unfold colV; rw [if_neg (by decide), if_neg (by decide), if_neg (by decide)]
    have c3 : colV xs (16777216 + r) true f b = r := by
      unfold colV; rw [if_pos (by omega)]; omega
    k_extra "my go"
    rename St _ _ _ _ _ => S
    refine r_call (colrgb_code C' (up1 hn rfl) S (by k_extra "my mem") (by k_extra "my mem") ho (by k_extra "my mem") H (hk.mono (fun p hp => Sub.mem (l' := Z) (by k_extra "my sub") p (zT p hp))) hg (fun q _ => absurd q (by decide)) ?_)
    clear S
    intro h t v tk1 ev S
    obtain rfl := ev.trans c1
    dsimp only [CallBack]
    k_extra "my go"
    rename St _ _ _ _ _ => S
    refine r_call (colrgb_code C' (up1 hn rfl) S (by k_extra "my mem") (by k_extra "my mem") ho (by k_extra "my mem") H (hk.mono (fun p hp => Sub.mem (l' := Z) (by k_extra "my sub") p (zT p hp))) hg (fun q _ => absurd q (by decide)) ?_)
    clear S
    intro h t v tk2 ev S
    obtain rfl := ev.trans c2
    dsimp only [CallBack]
    k_extra "my go"
    rename St _ _ _ _ _ => S
    refine r_call (colrgb_code C' (up1 hn rfl) S (by k_extra "my mem") (by k_extra "my mem") ho (by k_extra "my mem") H (hk.mono (fun p hp => Sub.mem (l' := Z) (by k_extra "my sub") p (zT p hp))) hg (fun _ q => by omega) ?_)
    clear S
    intro h t v tk3 ev S
    replace ev := ev.trans c3
    subst v
    dsimp only [CallBack]
    k_extra "my go"
    rename_i dt _ _ _ _ S _ _
    have S := S.subS (l' := (dt, W.listOf [.int (valAt ys sDyn 10 f b) tk1, .int (valAt ys sDyn 11 f b) tk2, .int r tk3].toArray 0) :: (I, o₁) :: Z) (by k_extra "my sub")
    refine' due_comp (T := T') (ob := ob) (of := of) (ok := ok) (okn := okn) (ys := ys) (f := f) (b := b) (l := (dt, W.listOf [.int (valAt ys sDyn 10 f b) tk1, .int (valAt ys sDyn 11 f b) tk2, .int r tk3].toArray 0) :: (I, o₁) :: Z) (ccl := [(Str.ofString "known", ck), (Str.ofString "fore", cf), (Str.ofString "back", cb)]) ?hclos ?hcell rfl ?hnames rfl (fun _ => rfl) ?hk2 ?hk3 ?hk4 ?hk5 ?hgl (fun _ => rfl) rfl rfl rfl C' (up1 hn rfl) ?mK ?mC ?mF ?mB ?hT dk df db hsys H2 hk2 hg2 ?hit ?_
    case hclos => subst he; exact rfl
    case hcell => decide
    case hnames => decide
    case hk2 => subst he; exact fun _ => rfl
    case hk3 => subst he; exact fun _ => rfl
    case hk4 => subst he; exact fun _ => rfl
    case hk5 => subst he; exact fun _ => rfl
    case hgl => subst he; exact rfl
    case mK => k_extra "my mem"
    case mC => k_extra "my mem"
    case mF => k_extra "my mem"
    case mB => k_extra "my mem"
    case hT => exact fun p hp => Sub.mem (l' := Z) (by k_extra "my sub") p (zT p hp)
    case hit =>
      k_extra "my go"
      rename_i u1 _ u2 _ d1 _ _ u3 _ u4 _ d2 _ _ d3 _ _ S
      exact ⟨d3, d1, d2, _, _, [(d3, tupO [.ref d1, .ref d2]), (d2, tupO [.str sDyn u3, .int 11 u4]), (d1, tupO [.str sDyn u1, .int 10 u2])], rfl, rfl, S, .head _, ⟨u1, u2, .tail _ (.tail _ (.head _))⟩, ⟨u3, u4, .tail _ (.head _)⟩⟩
    clear S
    intro du t1 t2 h t N S
    have S := S.subl (l' := (du, W.listOf [Value.int (valAt ys sDyn 10 f b) t1, .int (valAt ys sDyn 11 f b) t2].toArray 2) :: (dt, W.listOf [.int (valAt ys sDyn 10 f b) tk1, .int (valAt ys sDyn 11 f b) tk2, .int r tk3].toArray 0) :: (I, o₁) :: Z) ((List.sublist_append_right N _).cons_cons _)
    k_extra "my go"
    rename St _ _ _ _ _ => S
    refine r_neints C' (up1 hn rfl) S (by k_extra "my mem") (by k_extra "my mem") (.cons _ _ (.cons _ _ (.cons _ _ .nil))) (.cons _ _ (.cons _ _ (.cons _ _ .nil))) ?_
    rw [decide_eq_true rfl]
    k_extra "my go"
    · rename wd = _ => e
      have hv := hvk e
      have c4 : colV xs ku false f b = valAt xs wd ku f b := by
        unfold colV; rw [if_neg (by omega), if_pos (by omega), e]
      rename St _ _ _ _ _ => S
      refine r_call (colrgb_code C' (up1 hn rfl) S (by k_extra "my mem") (by k_extra "my mem") ho (by k_extra "my mem") H (hk.mono (fun p hp => Sub.mem (l' := Z) (by k_extra "my sub") p (zT p hp))) hg (fun _ _ => hv) ?_)
      clear S
      intro h t v tk4 ev S
      obtain rfl := ev.trans c4
      dsimp only [CallBack]
      k_extra "my go"
      rename St _ _ _ _ _ => S
      refine r_call (prgb_code C' (up1 hn rfl) S (by k_extra "my mem") (by k_extra "my mem") ho (by k_extra "my mem") H (hk.mono (fun p hp => Sub.mem (l' := Z) (by k_extra "my sub") p (zT p hp))) hg (hka.mono (fun p hp => Sub.mem (l' := Z) (by k_extra "my sub") p (zT p hp))) hvk ?_)
      clear S
      intro h t v tk5 ev S
      obtain rfl := ev
      dsimp only [CallBack]
      k_extra "my go"
      rename St _ _ _ _ _ => S
      refine' turn_S _ S ?sub ⟨od, oc, ow, ok, och, kn, okn, xs, ys, T', _, q1, q2, hD, dk, dw, hsys, H, H2, hk, hk2, hg, hg2, hag, hz, hz2, hT, hZ⟩
      case sub => k_extra "my sub"
    · rename St _ _ _ _ _ => S
      refine' turn_S _ S ?sub ⟨od, oc, ow, ok, och, kn, okn, xs, ys, T', _, q1, q2, hD, dk, dw, hsys, H, H2, hk, hk2, hg, hg2, hag, hz, hz2, hT, hZ⟩
      case sub => k_extra "my sub"

end
section
theorem lines_T10 : True := by
  k_with_none
  k_with "subscriptTail" => ((fail_if_success (with_reducible show wpAny _ _ (subscriptTail (PySem.Expr.Name _ _) _ _ _) _ _ _)); k_dflt (refine kba_turn (value' := PySem.Expr.Name (PySem.Str.ofString "_") ⟨0, 0, 0, 0⟩) (fun _ => rfl) ?_))
  k_with "my spot" => first | exact Spot.head | (refine' Spot.tail ?zspt; (case zspt => k_extra "my spot"))
  k_with "my swap" => ((try (rename St _ _ _ _ _ => so; clear so)))
  k_with "my subl" => first | exact List.Sublist.refl _ | (refine List.Sublist.cons_cons _ ?_; k_extra "my subl") | (refine List.Sublist.cons _ ?_; k_extra "my subl")
  k_with "my dec" => first | assumption | decide | omega | ((simp only [decide_eq_true_eq, decide_eq_false_iff_not, beq_iff_eq, bne_iff_ne, ne_eq, Bool.not_eq_true, Bool.not_eq_false, Bool.not_eq_true', Bool.not_eq_false', beq_eq_false_iff_ne, bne_eq_false_iff_eq]); omega) | (simp_all; done)
  k_with "eval Name" => (k_dflt (first
    | (refine' r_local ?zhe ?zS ?zv ?zk ?zx ?zd ?_; (case zhe => assumption); (case zS => assumption); (case zv => first | exact rfl | assumption); (case zk => exact rfl); (case zx => exact rfl); (case zd => decide); k_whole)
    | (refine' r_global ?zhe ?zC ?zS ?ze ?zk ?zx ?zd ?_; (case zhe => assumption); (case zC => assumption); (case zS => assumption); (case ze => k_is); (case zk => exact rfl); (case zx => exact rfl); (case zd => decide); k_whole)
    | (refine' r_builtin ?zhe ?zC ?zS ?ze ?zv ?zn ?zk ?zx ?zd ?_; (case zhe => assumption); (case zC => assumption); (case zS => assumption); (case ze => k_is); (case zv => boot_by_name); (case zn => decide); (case zk => exact rfl); (case zx => exact rfl); (case zd => decide); k_whole)))
  k_with "storeName" => (k_dflt (refine' r_store ?zhe ?zS ?zk ?zx ?_; (case zhe => assumption); (case zS => assumption); (case zk => exact rfl); (case zx => exact rfl); k_whole); k_extra "my swap"; intro _ _ _)
  k_with "eval Constant int" => (refine r_cint ?_; intro _ _)
  k_with "eval Constant str" => (refine r_cstr ?_; intro _ _)
  k_with "eval Constant bytes" => (refine r_cbytes ?_; intro _ _)
  k_with "eval Constant bool" => (refine r_cbool ?_)
  k_with "eval Constant none" => (refine r_cnone ?_)
  k_with "binaryOp Add int int" => (refine r_add ?_; intro _ _)
  k_with "binaryOp Sub int int" => (refine r_sub ?_; intro _ _)
  k_with "binaryOp Mult int int" => (refine r_mul ?za ?_; (case za => mul_fits); intro _ _)
  k_with "binaryOp Mod int int" => (refine r_mod ?za ?_; (case za => first | decide | omega | assumption); intro _ _)
  k_with "binaryOp FloorDiv int int" => (refine r_fdiv ?za ?zb ?_; (case za => first | decide | omega); (case zb => first | decide | omega); intro _ _)
  k_with "compareOp Eq int int" => (refine r_eq ?_)
  k_with "compareOp NotEq int int" => (refine r_ne ?_)
  k_with "compareOp Lt int int" => (refine r_lt ?_)
  k_with "compareOp LtE int int" => (refine r_le ?_)
  k_with "compareOp Gt int int" => (refine r_gt ?_)
  k_with "compareOp GtE int int" => (refine r_ge ?_)
  k_with "unaryOp USub int" => (refine r_neg ?_; intro _ _)
  k_with "newTuple" => (refine' r_tuple ?zS ?zz ?_; (case zS => assumption); (case zz => exact Nat.le_of_ble_eq_true rfl); k_extra "my swap"; intro _ _ _ _)
  k_with "newList" => (refine' r_list ?zS ?zz ?_; (case zS => assumption); (case zz => exact Nat.le_of_ble_eq_true rfl); k_extra "my swap"; intro _ _ _ _)
  k_with "ite" => first | (refine PySem.W.ite_pos ?za ?_; (case za => k_extra "my dec")) | (refine PySem.W.ite_neg ?za ?_; (case za => k_extra "my dec")) | (refine split_dec ?_ ?_ <;> intro _) | (refine split_bool ?_ ?_ <;> intro _)
  k_with "my entered" => ((case C => assumption); (case S => assumption); (case k6 => k_is); (case k7 => k_is); (case kn => first | (refine up1 (by assumption) ?_; exact rfl) | omega); (case k9 => first | exact BindsTo.of_eq rfl | exact binds_K (Fx.inn (by assumption) (by assumption)) rfl (by k_is) rfl rfl rfl); (case kB => exact locs rfl); (case kD => decide); (case c2 => exact rfl); (case c3 => exact rfl); (case c4 => exact rfl); (case c5 => decide); k_extra "my swap"; intro _ _ _ _ _ _ _ _ _ _; (try dsimp only); k_extra "my fold")
  k_with "execs cons" => (refine wpAny_execs_cons ?_; (try k_extra "my fold"))
  k_with "execs nil" => refine wpAny_execs_nil ?_
  k_with "exec If" => refine wpAny_If ?_
  k_with "isTrue Compare" => refine wpAny_isTrue_Compare1 ?_
  k_with "exec Return some" => refine wpAny_Return_some ?_
  k_with "eval BinOp" => refine wpAny_BinOp ?_
  k_with "truthy bool" => refine wpAny_truthy_bool ?_
  k_with "getMethod ref" => (k_dflt (refine' r_lmeth ?zS ?zm ?zs ?zt ?_; (case zS => assumption); (case zm => k_mem); (case zs => first | exact PySem.F.slot_list_append | exact PySem.F.slot_list_pop | exact PySem.F.slot_list_index); (case zt => first | exact PySem.F.type_list_append | exact PySem.F.type_list_pop | exact PySem.F.type_list_index); k_whole))
  k_with "LeaveS" => ((try dsimp only); (refine' leaveS ?zS ?_; (case zS => assumption)); k_extra "my swap"; intro _; (try dsimp only [flowV]))
  k_with "exec Assign" => (k_dflt (first
    | (refine' r_assignN ?zhe ?zhs ?_; (case zhe => assumption); (case zhs => exact rfl); k_whole)
    | (refine' r_assignT ?zhe ?zhs ?zhw ?_; (case zhe => assumption); (case zhs => exact rfl); (case zhw => exact rfl); k_whole)
    | (refine' r_assignTS ?zhe ?zhs ?zhw ?_; (case zhe => assumption); (case zhs => exact rfl); (case zhw => exact rfl); k_whole)
    | (refine' plainObj_wpAny_Assign_Attribute ?_ ?zhs; (case zhs => exact rfl); k_whole)
    | (refine' wpAny_Assign_Subscript ?_ ?zhs; (case zhs => exact rfl); k_whole)))
  k_with "assign Tuple" => (k_dflt (refine' r_unpack ?zC ?zS ?zm ?zk1 ?zk2 ?_; (case zC => assumption); (case zS => assumption); (case zm => k_mem); (case zk1 => exact rfl); (case zk2 => exact rfl); k_whole); k_extra "my swap"; intro _ _; dsimp only [assignEach, List.map])
  k_with "assignInOrder" => first | refine assignInOrder_nil ?_ | refine assignInOrder_cons ?_
  k_with "assign Name" => refine assign_Name ?_
  k_with "unpackItems ref" => (k_dflt (refine' r_unpackItems ?zC ?zS ?zm ?zk1 ?_; (case zC => assumption); (case zS => assumption); (case zm => k_mem); (case zk1 => exact rfl); k_whole); k_extra "my swap"; intro _ _; dsimp only [List.reverse, List.reverseAux, List.map])
  k_with "bindName" => refine r_bindName ?_
  k_with "my sel" => first | exact Sel.head | (refine' Sel.tail ?zsel; (case zsel => k_extra "my sel"))
  k_with "my sub" => first
    | exact Sub.refl
    | (refine' Sub.take Sel.head ?zrest; (case zrest => k_extra "my sub"))
    | ((fail_if_success (refine' Sub.probe ?zpra ?zprm; (case zprm => k_mem))); refine' Sub.skip ?zrest; (case zrest => k_extra "my sub"))
    | (refine' Sub.take ?zsel ?zrest; (case zsel => k_extra "my sel"); (case zrest => k_extra "my sub"))
    | (refine' Sub.skip ?zrest; (case zrest => k_extra "my sub"))
  k_with "getAttr ref" => (k_dflt (refine' r_getR ?zS ?zX ?zh1 ?zh2 ?zho ?zhg ?zhh ?zha ?zhn ?zhl ?zhv ?_; (case zS => assumption); (case zX => assumption); (case zh1 => k_mem); (case zh2 => k_mem); (case zho => assumption); (case zhg => k_is); (case zhh => k_is); (case zha => k_is); (case zhn => k_is); (case zhl => exact rfl); (case zhv => exact rfl); k_whole); intro _)
  k_with "setAttr ref" => (k_dflt (refine' r_setR ?zS ?zX ?zh1 ?zU ?zho ?zhs ?zhp ?zht ?zhh ?zhz ?_; (case zS => assumption); (case zX => assumption); (case zh1 => k_mem); (case zU => k_extra "my spot"); (case zho => first | assumption | exact rec_nil); (case zhs => k_is); (case zhp => k_is); (case zht => k_is); (case zhh => k_is); (case zhz => exact Nat.le_of_ble_eq_true rfl); k_whole); k_extra "my swap"; intro _ _ _ _ _; (try (rename St _ _ _ _ _ => zzS; (try dsimp only at zzS); revert zzS; intro _)))
  k_with "getMethod ref" => (k_dflt (refine' r_methR ?zS ?zX ?zh1 ?zh2 ?zho ?zhg ?zhf ?zht ?zhl ?_; (case zS => assumption); (case zX => assumption); (case zh1 => k_mem); (case zh2 => k_mem); (case zho => assumption); (case zhg => k_is); (case zhf => k_is); (case zht => k_is); (case zhl => exact rfl); k_whole))
  k_with "call builtin:list.append" => (k_dflt (refine' r_appendL ?zS ?zU ?zz ?_; (case zS => assumption); (case zU => k_extra "my spot"); (case zz => omega); k_whole); k_extra "my swap"; intro _ _ _ _; (try (rename St _ _ _ _ _ => zzS; (try dsimp only at zzS); revert zzS; intro _)))
  k_with "exec Expr" => (k_dflt (refine' r_expr ?zhe ?zhi ?zhs ?_; (case zhe => assumption); (case zhi => exact rfl); (case zhs => exact rfl); k_whole))
  k_with "call builtin:len" => (k_dflt (refine' r_lenL ?zS ?zm ?zz ?_; (case zS => assumption); (case zm => k_mem); (case zz => (try simp only [List.length_append, List.length_cons, List.length_nil]); omega); k_whole); intro _ _)
  k_with "call builtin:list.pop" => (k_dflt ((with_reducible show wpAny _ _ (call (Value.builtin _) [Value.ref _, Value.int _ _]) _ _ _); refine' r_pop0L ?zS ?zU ?zne ?zz ?_; (case zS => assumption); (case zU => k_extra "my spot"); (case zne => simp; done); (case zz => (try simp only [List.length_append, List.length_cons, List.length_nil]); omega); k_whole); k_extra "my swap"; intro _ _ _ _ _; (try (rename St _ _ _ _ _ => zzS; (try dsimp only at zzS); revert zzS; intro _)))
  k_with "callWith ref" => (k_dflt (first
    | (refine' r_callWith ?zX ?zhk ?_; (case zX => exact Fx.X (by assumption)); (case zhk => k_is); k_whole)
    | (refine' r_callWith0 ?zC ?zS ?zhk ?_; (case zC => assumption); (case zS => assumption); (case zhk => k_is); k_whole)))
  k_with "And" => ((with_reducible show Frag.In _ _ ∧ _); k_dflt (refine' r_kin ?zC ?zS ?_; (case zC => assumption); (case zS => assumption)); try dsimp only [List.nil_append, List.cons_append])
  k_with "my swapD" => ((try (rename Deck _ _ _ _ _ => so; clear so)))
  k_with "call type:range" => (k_dflt (refine' r_rangeN ?zS ?zz ?_; (case zS => assumption); (case zz => omega); k_whole); k_extra "my swap"; intro _ _ _ _ _ _ _ _)
  k_with "subscriptTail" => (k_dflt (first
    | (refine' r_itemL ?zS ?zm ?za ?zb ?zx ?_ ?zhs; (case zS => assumption); (case zm => k_mem); (case za => decide); (case zb => decide); (case zx => exact rfl); (case zhs => exact rfl); k_whole)
    | (refine' r_itemT ?zS ?zm ?za ?zb ?zx ?_ ?zhs; (case zS => assumption); (case zm => k_mem); (case za => decide); (case zb => decide); (case zx => exact rfl); (case zhs => exact rfl); k_whole)
    | (refine' r_menuB ?zC ?zS ?zl ?zb ?za ?zc ?zd ?_ ?zhs; (case zC => assumption); (case zS => assumption); (case zl => k_is); (case zb => exact rfl); (case za => omega); (case zc => (simp only [List.length_cons, List.length_nil]); omega); (case zd => decide); (case zhs => exact rfl); k_whole; intro _ _)))
  k_with "binaryOp Add ref ref" => (k_dflt (refine' r_addL ?zS ?za ?zb ?zz ?_; (case zS => assumption); (case za => k_mem); (case zb => k_mem); (case zz => (try simp only [List.length_append, List.length_cons, List.length_nil]); omega); k_whole); k_extra "my swap"; intro _ _ _ _)
  k_with "call type:tuple" => (k_dflt (refine' r_tupleOf ?zS ?za ?zz ?_; (case zS => assumption); (case za => k_mem); (case zz => (try simp only [List.length_append, List.length_cons, List.length_nil]); omega); k_whole); k_extra "my swap"; intro _ _ _ _)
  k_with "my slice" => (k_dflt (refine' r_sliceL ?zS ?zm ?zpl ?zpu ?zhs ?zht ?zhz ?_; (case zS => assumption); (case zm => k_mem); (case zpl => first | exact .none | exact .int _ _); (case zpu => first | exact .none | exact .int _ _); (case zhs => exact rfl); (case zht => exact fun _ => rfl); (case zhz => (try simp only [List.length_append, List.length_cons, List.length_nil]); omega); k_whole); k_extra "my swap"; intro _ _ _ _)
  k_with "eval Dict nil nil" => (k_dflt (refine' r_newDict ?zC ?zS ?_; (case zC => assumption); (case zS => assumption); k_whole); k_extra "my swap"; intro _ _ _ _ _ _ _)
  k_with "my slice" => ((fail_if_success (with_reducible show wpAny _ _ (subscriptTail (PySem.Expr.Name _ _) _ _ _) _ _ _)); k_dflt (refine kba_turn (value' := PySem.Expr.Name (PySem.Str.ofString "_") ⟨0, 0, 0, 0⟩) (fun _ => rfl) ?_); k_extra "my slice")
  k_with "my stop" => first
    | (with_reducible show wpAny _ _ (subscriptTail _ _ (Value.ref _) (Value.ref _)) _ _ _)
    | (with_reducible show wpAny _ _ (setItem (Value.ref _) (Value.ref _) _) _ _ _)
    | (with_reducible show wpAny _ _ (call (Value.builtin "dict.pop") _) _ _ _)
    | (with_reducible show wpAny _ _ (call (Value.builtin "dict.get") _) _ _ _)
    | (with_reducible show wpAny _ _ (call (Value.builtin "list.index") _) _ _ _)
    | (with_reducible show wpAny _ _ (compareOp _ (Value.ref _) (Value.ref _)) _ _ _)
    | (with_reducible show wpAny _ _ (pyIter (Value.ref _)) _ _ _)
  k_with "my fold" => (refine foldQ ?_; intro _ _)
  k_with "my unfold" => first | ((rename ∀ (_ : Flow) (_ : Shared), _ → _ => hq; refine hq _ _ ?_; clear hq); (rename Flow → Shared → Prop => q; clear q); (try dsimp only)) | ((rename ∀ (_ : Value) (_ : Shared), _ → _ => hq; refine hq _ _ ?_; clear hq); (rename Value → Shared → Prop => q; clear q); (try dsimp only))
  k_with "my step" => first
    | ((with_reducible show wpAny _ _ (subscriptTail _ _ (Value.ref _) (Value.ref (Array.size _))) _ _ _); k_extra "my slice")
    | ((with_reducible show wpAny _ _ (exec _ _) (NextIs _) _ _); k_extra "my fold")
    | ((fail_if_success k_extra "my stop"); first | walk1 | (dsimp only; walk1) | k_extra "my unfold")
  k_with "my go" => repeat' k_extra "my step"
  k_with "my goIf" => repeat' ((fail_if_success (with_reducible show wpAny _ _ (exec (Stmt.If _ _ _ _) _) _ _ _)); k_extra "my step")
  k_with "my goFor" => repeat' ((fail_if_success (with_reducible show wpAny _ _ (exec (Stmt.For _ _ _ _ _) _) _ _ _)); k_extra "my step")
  k_with "binaryOp LShift int int" => (refine r_shl ?za ?zb ?zc ?_; (case za => omega); (case zb => omega); (case zc => omega); intro _ _)
  k_with "binaryOp BitOr int int" => (refine r_or ?_; intro _ _)
  trivial
/-- the law's own frame -/
theorem law_in {prog : Program} {w : World} {K : Frag} {A₀ : Around} {base g h : Heap} {L fa : Addr} {m : Str → Option Value} {s₀ : Shared} {t : Nat} {qual : Str} {scope : Scope} {cd : Value} {body : List Stmt} {Q : Flow → Shared → Prop} {E : Value → Shared → Prop}
    (B : Below A₀ base [] g) (hA : A₀.frames = some []) (T : ∃ p loose mg mb, TopRead p loose mg mb g) (X : K.In g) (hk : scope.kind = .function) (dep : A₀.depth ≤ 310) (uni : A₀.units ≤ 8) (hnd : A₀.handled = none) (F : Fr g L h m) (N : News g L h [])
    (hb : ∀ env, env = envX qual scope L fa cd [] → Fx K (A₀.deeper (envX qual scope L fa cd [])) 1 g env L → St g L h m [] → wpAny (model prog w) (A₀.deeper (envX qual scope L fa cd [])) (execs body env) Q E (sg s₀ h t)) :
    wpAny (model prog w) (A₀.deeper (envX qual scope L fa cd [])) (execs body (envX qual scope L fa cd [])) Q E (sg s₀ h t) := by
  refine hb _ rfl ⟨⟨A₀, base, [], B, Around.frames_deeper hA⟩, T, X, rfl, hk, ?_, ?_, hnd⟩ ⟨F, N, List.nodup_nil⟩
  · show A₀.depth + 1 ≤ 1 + 400
    omega
  · show A₀.units + 3 ≤ 8 * 1 + 8
    omega
theorem lines_T10_0 : True := by
  k_with "call ref" => (k_dflt (refine' r_call (deck_code ?zC ?zn ?zS ?zL ?zi ?zz ?_); (case zC => assumption); (case zn => decide); (case zS => assumption); (case zL => assumption); (case zi => assumption); (case zz => omega); k_whole); k_extra "my swap"; intro _ _ _ _ _ _ _ _; dsimp only [CallBack])
  k_with "call ref" => (k_dflt ((first | refine' r_call (titles_code ?zC ?zn ?zS ?zD ?_) | refine' r_call (links_code ?zC ?zn ?zS ?zD ?_) | refine' r_call (colours_code ?zC ?zn ?zS ?zD ?_)); (case zC => assumption); (case zn => decide); (case zS => assumption); (case zD => assumption); k_whole); k_extra "my swap"; k_extra "my swapD"; intro _ _ _ _ _ _; dsimp only [CallBack])
  trivial
theorem law_holds : PySem.Challenge.rw_og0239_01.Holds := by
  refine hd ?_
  w_strict (
    k_go0
    (rename Fr _ _ _ _ => F)
    (rename News _ _ _ _ => N)
    (rename Below _ _ _ _ => B)
    (rename IntsAre _ _ => hI)
    (rename Heap.IsList _ _ _ => hL)
    (rename Frag.In _ _ => X)
    (rename Top _ _ _ _ _ _ => T)
    (refine law_in B rfl ⟨_, _, _, _, topRead_of T⟩ X rfl (by decide) (by decide) rfl F N ?_)
    (intro env he C S)
    (refine noE (foldQ ?_))
    (intro q hq)
    (have hz := hI.length)
    clear F N
    (dsimp only)
    k_extra "my go"
    (rename St _ _ _ _ _ => S)
    (have F := S.F)
    wrow_close)

end
end Mine
theorem PySem.Challenge.cw_og0239_01_holds : PySem.Challenge.rw_og0239_01.Holds := by
  exact Mine.law_holds
