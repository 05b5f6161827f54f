import PyProof.Rows.All
import HandS.Ends
import HandS.HeadEnd
import HandS.Defaults
import HandS.CallSlots
import HandS.More
import Wide.All
import OpenK.AllK
import Wide.FinOn
import HandS.ForMost
import HandS.ForExc
import HandS.Walk
import HandS.Deep
import HandS.IsInst
import KE.SortData
import KE.DataEq
import HandS.Wide
import HandS.TupAny
import HandS.Text
import HandS.Style
import HandS.Zip
import HandS.Dict
import KE.KExcSuper
import KE.KSuper
import KE.KExcMake
import HandS.ExcValue
import HandS.ExcIs
import KE.KExcStr
import PyProof.ReprRoads
import HandS.RaiseMore
import PySem.Challenge.RW_endcolumns_k01_errors_by_hand
import HandS.HeadHook2
import HandS.Head2
set_option Elab.async false
set_option autoImplicit false
set_option linter.all false
set_option maxRecDepth 100000
set_option maxHeartbeats 2000000
/-! defs run where no repr is under way -/
namespace DL
open PySem PySem.Spec PyProof.Rows L2

structure FnG (P : Program) (w : World) (K : PySem.W.Frag) (mg : Str → Option Value) (base : Heap) (CX : CXT) (k : Nat) (f : Addr) (fd : FuncData) (ps : List Str) (sp : Sp) : Prop where
  len : ∀ vs H Q E, sp vs H Q E → vs.length = ps.length
  run : ∀ (A : Around) (outer : List Env) (s : Shared) (H : Hp) (args : Args) (us : List Value) (vs : List V) (Q : VK) (E : XK), Room k A → A.guards = some [] → Env0 P w K mg base A outer s H → BindsTo s fd args (ps.zip us) → Vals vs us → sp vs H Q E →
    codeAny (model P w) A (.call (.ref f) args) (CR CX outer P w H s Q E) s
theorem deeper_g {A : Around} {env : Env} (h : A.guards = some []) : (A.deeper env).guards = some [] := h
section
variable {P : Program} {w : World} {K : PySem.W.Frag} {mg : Str → Option Value} {base : Heap} {CX : CXT} {k : Nat} {f : Addr} {fd : FuncData} {N ps : List Str} {sp : Sp} {x qual : Str} {params : Arguments} {body : List Stmt} {scope : Scope} {dvs : List V} {kws : List (Str × V)}
theorem FnG.mono {j : Nat} (F : FnG P w K mg base CX j f fd ps sp) (h : j ≤ k) : FnG P w K mg base CX k f fd ps sp := ⟨F.len, fun A outer s H args us vs Q E hr => F.run A outer s H args us vs Q E (hr.mono h)⟩
theorem FnG.of (F : FunD K x qual params body scope dvs kws f fd) (S : FnScope N ps scope) (len : ∀ vs H Q E, sp vs H Q E → vs.length = ps.length)
    (hb : ∀ (cdv : Value) (A : Around) (outer : List Env) (s : Shared) (H : Hp) (vs : List V) (Q : VK) (E : XK), Room k (A.deeper (envOfC qual scope s.heap.objs.size f cdv)) → A.guards = some [] → sp vs H Q E →
      ∃ t, PSs (cxOf CX P w K mg base N qual scope f cdv A outer s H E) body t ∧ t { nx := fun _ H' => Q .non H', rt := Q } (start N vs) H) : FnG P w K mg base CX (k + 1) f fd ps sp := by
  obtain ⟨oc, od, dV, kV, doc, pm, an, cdv, ct, osl, rfl, lk, hcd, _, _⟩ := F.ex
  refine ⟨len, fun A outer s H args us vs Q E hr hg e0 bd r hsp => ?_⟩
  have hl := len _ _ _ _ hsp
  have KX : K.In s.heap := e0.mod.kin.keeps fun b o e => by exact (e0.bs b o e).1
  have lim : s.heap.NoLimit := e0.mod.nolimit.keeps fun b o e => by exact (e0.bs b o e).1
  have hk : ∀ y ∈ ps.zip us, scope.names.lookup y.1 = some .local ∨ (scope.names.lookup y.1 = some .cell ∧ ((cellsFrom (s.heap.objs.size + 1) scope.names []).lookup y.1).isSome = true) := by
    intro ⟨n, v⟩ hy
    rcases S.par n (List.of_mem_zip hy).1 with q | q
    · exact .inl q
    · exact .inr ⟨q, PySem.W.cellsFrom_some _ _ _ (.inl q)⟩
  refine codeAny_call_function hr.depth (KX _ _ lk) rfl S.co S.gen rfl (PySem.W.codeRec_of KX hcd) (bd _ _ _ _ ?_)
  refine wpAny_newFunctionEnv_cells S.kind hk fun env he s1 ic => ?_
  subst he
  refine ⟨lim.keeps ic.toInCall.keep, codeAny_func ?_⟩
  obtain ⟨t, ht, hq⟩ := hb cdv A outer s H vs Q E (hr.deeper _) hg hsp
  have I := inv_start (CX := CX) (E := E) S hr.hd e0 hl r ic
  refine wpAny_mono (ht.run [] s1 (start N vs) H _ I hq) (fun fl s' hs => ?_) fun e s' hs => hs
  cases fl with
  | ret u =>
    obtain ⟨v, σ', H', J, rv, q⟩ := hs
    exact ⟨v, H', J.os, J.bare, J.base, J.hok, rv, q⟩
  | next =>
    obtain ⟨σ', H', J, q⟩ := hs
    exact ⟨V.non, H', J.os, J.bare, J.base, J.hok, rfl, q⟩
  | brk =>
    obtain ⟨_, _, _, q⟩ := hs
    exact False.elim q
  | cont =>
    obtain ⟨_, _, _, q⟩ := hs
    exact False.elim q
end
section
variable {X : Cx} {CX : CXT} {k : Nat} {f : Addr} {fd : FuncData} {ps : List Str} {sp : Sp} {E : L2.St → XK} {x : Str} {p pos : Pos} {e : Expr} {es : List Expr} {t : TA}
theorem run_fnG {pins : List (Addr × Obj)} {σ : L2.St} {H : Hp} {s : Shared} {Q : VK} {us : List Value} {vs : List V} (F : FnG X.prog X.w X.K X.mg X.base CX k f fd ps sp) (hr : Room k X.A) (hgd : X.A.guards = some []) (hb : L2.Binds X.K fd ps []) (hx : PassesAt CX X σ (E σ)) (I : Inv X pins σ H s) (r : Vals vs us) (h : sp vs H Q (E σ)) :
    wpAny (model X.prog X.w) X.A (call (.ref f) us) (EP X pins σ Q) X.xe s := by
  have hl : us.length = ps.length := by rw [← r.length]; exact F.len _ _ _ _ h
  have hb1 := hb s us I.kIn (by rw [List.append_nil]; exact hl)
  rw [List.append_nil] at hb1
  refine wpAny_call (codeAny_mono (F.run X.A X.stack s H ⟨us, []⟩ us vs Q (E σ) hr hgd I.env0 hb1 r h) fun r s' hq => ?_)
  cases r with
  | error e => exact hx pins H s e s' I hq
  | ok fl =>
    cases fl with
    | ret u => exact I.after hq
    | next => exact False.elim hq
    | brk => exact False.elim hq
    | cont => exact False.elim hq
theorem pe_callG (F : FnG X.prog X.w X.K X.mg X.base CX k f fd ps sp) (hr : Room k X.A) (hgd : X.A.guards = some []) (hg : Gl X x) (hm : X.mg x = some (.ref f)) (hk : PySem.W.keepIn X.K (.ref f) = true) (hb : L2.Binds X.K fd ps []) (hx : ∀ σ, PassesAt CX X σ (E σ))
    (ha : PA X (e :: es) t) (hdb : (x == ("__debug__" : Str)) = false := by decide) (he : starEach (e :: es) X.env = (false, eval e X.env) :: starEach es X.env := by rfl) (hpl : (backTo pos (starEach es X.env)).any (·.1) = false := by rfl) :
    PE X (.Call (.Name x p) (e :: es) [] pos) (fun σ H Q => t σ H fun vs H1 => sp vs H1 Q (E σ)) := by
  refine ⟨fun pins s σ H Q I h => ?_⟩
  refine wpAny_Call_Name_kw (ld_glob I hg hm ?_ hdb)
  refine PySem.W.callWith_K (h₀ := X.base) I.ok.mod.kin hk (thn (ha.run pos pins s σ H _ I h) fun us s1 ⟨vs, H1, I1, r, q⟩ => by exact ⟨I1.kIn, run_fnG F hr hgd hb (hx σ) I1 r q⟩) he hpl
end
/-- a list as it stands (tracked; or an object of the module, laid plainly) -/
def SqE (K : PySem.W.Frag) (H : Hp) (a : Addr) (xs : List V) : Prop := Rd H a (.lst xs) ∨ ∃ (its : List Value) (n : Nat), K.lookup a = some { cls := .type "list", data := .seq its.toArray n } ∧ its.length ≤ sizeLine ∧ Vals xs its
theorem SqE.sql {K : PySem.W.Frag} {H : Hp} {a : Addr} {xs : List V} (h : SqE K H a xs) : SqL K H a xs := by
  rcases h with h | ⟨its, n, h1, h2, h3⟩
  · exact .inl h
  · exact .inr ⟨_, its.toArray, n, h1, rfl, rfl, rfl, by simpa using h2, by simpa using h3⟩
/-- where a law is called from -/
theorem callerA_g : callerA.guards = some [] := rfl
end DL

set_option Elab.async false
set_option autoImplicit false
set_option linter.all false
set_option maxRecDepth 100000
set_option maxHeartbeats 2000000
/-! the law called, where no repr is under way -/
namespace DL
open PySem PySem.Spec PyProof.Rows L2
section
variable {P : Program} {w : World} {K : PySem.W.Frag} {mg mb : Str → Option Value} {CX : CXT} {k : Nat} {fa a : Addr} {fd : FuncData} {x : Str} {sp : Sp} {s₁ : Shared} {vs : List Value} {ns : List Int}
/-- what law_call's core needs, once H is chosen -/
theorem call_core (KX : K.In s₁.heap) (hns : s₁.heap.Ns mainGlobals mg) (hb : s₁.heap.Ns builtinsNs mb) (hbb : ∀ x : Str, x ≠ "__name__" → mb x = bootBuiltins x) (hlim : s₁.heap.NoLimit) (hg : s₁.gens = #[])
    (ha : s₁.heap.get? a = some { cls := .type "list", data := .seq vs.toArray }) (hr : Room k callerA) (F : ∀ base : Heap, K.In base → base.Ns mainGlobals mg → FnG P w K mg base CX k fa fd [x] sp) (hbind : ∀ (s : Shared) (u : Value), BindsTo s fd ⟨[u], []⟩ [(x, u)])
    (hCX : ∀ H e s', CX [] H s₁ (fun _ _ _ => False) e s' → False) {H : Hp} (hO : Only H) (hsp : sp [.ref a] H (fun v _ => v = .bl true) fun _ _ _ => False) (hok : HOk P w H s₁.heap) (hA : ∀ b, H b ≠ none → b = a) (hK : H a ≠ none → K.lookup a = none) :
    codeAny (model P w) callerA (.call (.ref fa) ⟨[.ref a], []⟩) (fun r s' => r = .ok (.ret (.bool true)) ∧ OldK s₁.heap s'.heap ∧ s'.os = s₁.os ∧ AllBare s'.gens) s₁ := by
  have is_a : ∀ {b : Addr} {u : HO}, H b = some u → b = a := fun {b u} q => hA b (by rw [q]; exact fun z => nomatch z)
  have get : ∀ {b : Addr} {o : Obj}, s₁.heap.get? b = some o → H b = none → (hidT s₁.heap H).get? b = some o := fun e n => hidT_get e n
  have dictN : ∀ {b : Addr} {o : Obj} {es : Array DictEntry} {ep : Nat}, s₁.heap.get? b = some o → o.data = .dict es ep → H b = none := fun {b o es ep} e d => by
    cases q : H b with
    | none => rfl
    | some u =>
      have e' := is_a q
      subst e'
      rw [ha] at e
      cases e
      exact Data.noConfusion d
  have nsK : ∀ {b : Addr} {m : Str → Option Value}, s₁.heap.Ns b m → (hidT s₁.heap H).Ns b m := by
    intro b m ⟨o, es, ep, e, d, r⟩
    exact ⟨o, es, ep, get e (dictN e d), d, r⟩
  have inK : K.In (hidT s₁.heap H) := fun b o e => get (KX b o e) (by
    cases q : H b with
    | none => rfl
    | some u =>
      have e' := is_a q
      subst e'
      have z := hK (by rw [q]; exact fun z => nomatch z)
      have e2 : K.lookup b = some o := e
      rw [z] at e2
      cases e2)
  obtain ⟨mc, l1, l2⟩ := hlim
  have M : Mod K mg (hidT s₁.heap H) := ⟨inK, nsK hns, ⟨mb, nsK hb, hbb⟩, ⟨mc, nsK l1, l2⟩⟩
  have e0 : Env0 P w K mg (hidT s₁.heap H) callerA [] s₁ H := ⟨rfl, M, fun b o e => of_hidT e, Nat.le_of_eq (hidT_size _ _), trivial, fun b hb => absurd (show b ∈ ([] : List Addr) from hb) (by simp), hok, .of_eq hg⟩
  have R := (F _ inK (nsK hns)).run callerA [] s₁ H ⟨[.ref a], []⟩ [.ref a] [.ref a] _ _ hr callerA_g e0 (hbind s₁ (.ref a)) (.cons rfl .nil) hsp
  refine codeAny_mono R fun r s' h => ?_
  cases r with
  | error e => exact (hCX H e s' h).elim
  | ok fl =>
    cases fl with
    | next => exact False.elim h
    | brk => exact False.elim h
    | cont => exact False.elim h
    | ret u =>
      obtain ⟨v, H', os, bare, un, hok', r', q⟩ := h
      have q' : v = .bl true := q
      subst q'
      obtain rfl : u = Value.bool true := r'
      refine ⟨rfl, OldK.of_keep fun b o e => ?_, os, bare⟩
      cases q : H b with
      | none => exact un.keep b o e q (by intro z; exact absurd (show b ∈ ([] : List Addr) from z) (by simp)) (by simp)
      | some u =>
        rcases hO b with z | ⟨ob, xs, z⟩
        · rw [q] at z
          cases z
        · have z2 := un.frzs b ob _ z
          obtain ⟨e1, _⟩ := hok b _ z
          obtain ⟨e2, _⟩ := hok' b _ z2
          rw [e] at e1
          cases e1
          exact e2
theorem law_callG (KX : K.In s₁.heap) (hns : s₁.heap.Ns mainGlobals mg) (hb : s₁.heap.Ns builtinsNs mb) (hbb : ∀ x : Str, x ≠ "__name__" → mb x = bootBuiltins x) (hlim : s₁.heap.NoLimit) (hg : s₁.gens = #[])
    (ha : s₁.heap.get? a = some { cls := .type "list", data := .seq vs.toArray }) (hi : IntsAre vs ns) (hl : ns.length ≤ sizeLine) (hr : Room k callerA) (F : ∀ base : Heap, K.In base → base.Ns mainGlobals mg → FnG P w K mg base CX k fa fd [x] sp) (hbind : ∀ (s : Shared) (u : Value), BindsTo s fd ⟨[u], []⟩ [(x, u)])
    (hsp : ∀ H : Hp, Only H → SqE K H a (ns.map V.int) → sp [.ref a] H (fun v _ => v = .bl true) fun _ _ _ => False) (hCX : ∀ H e s', CX [] H s₁ (fun _ _ _ => False) e s' → False) :
    codeAny (model P w) callerA (.call (.ref fa) ⟨[.ref a], []⟩) (fun r s' => r = .ok (.ret (.bool true)) ∧ OldK s₁.heap s'.heap ∧ s'.os = s₁.os ∧ AllBare s'.gens) s₁ := by
  have rv := vals_ints hi
  have lenV := hi.length
  cases hk : K.lookup a with
  | some o =>
    have e := KX a o hk
    rw [ha] at e
    cases e
    have O : Only (fun _ => none) := fun _ => .inl rfl
    refine call_core KX hns hb hbb hlim hg ha hr F hbind hCX O (hsp _ O (.inr ⟨vs, _, hk, ?_, rv⟩)) (fun b u z => ?_) (fun b z => absurd rfl z) fun z => absurd rfl z
    · rw [lenV]
      exact hl
    · have z' : (none : Option HO) = some u := z
      cases z'
  | none =>
    let H1 : Hp := fun b => if b = a then some (.frz { cls := .type "list", data := .seq vs.toArray } (.lst (ns.map V.int))) else none
    have at_a : H1 a = some (.frz { cls := .type "list", data := .seq vs.toArray } (.lst (ns.map V.int))) := if_pos rfl
    have off : ∀ b, b ≠ a → H1 b = none := fun b hb => if_neg hb
    have O : Only H1 := fun b => by
      by_cases hb : b = a
      · subst hb
        exact .inr ⟨_, _, at_a⟩
      · exact .inl (off b hb)
    refine call_core KX hns hb hbb hlim hg ha hr F hbind hCX O (hsp _ O (.inl (.inr ⟨_, at_a⟩))) (fun b u z => ?_) (fun b z => ?_) fun _ => hk
    · by_cases hb : b = a
      · subst hb
        rw [at_a] at z
        cases z
        exact ⟨ha, by rw [List.length_map]; exact hl, vs, _, rv, ha⟩
      · rw [off b hb] at z
        cases z
    · by_cases hb : b = a
      · exact hb
      · exact absurd (off b hb) z
end
theorem walk_ofG {l : PySem.W.OpenLaw} {n k : Nat} {q : Program} {loose : List Str} {XP : (Str → Option Value) → Heap → Prop} {YP : World → Heap → Prop} {d : DefRec} {CX : World → CXT} {x : Str} (hn : l.most = some n) (hn2 : n ≤ sizeLine) (hdf : d.params.defaults = []) (hr : Room k callerA)
    (F : ∀ (w : World) (mg : Str → Option Value) (fa : Addr) (h : Heap), YP w h → h.Ns mainGlobals mg → mg d.name = some (.ref fa) → ∃ (K : PySem.W.Frag) (fd : FuncData) (sp : Sp), K.In h ∧ (∀ (s : Shared) (u : Value), BindsTo s fd ⟨[u], []⟩ [(x, u)]) ∧
        (∀ (H : Hp) (a : Addr) (ns : List Int), ns.length ≤ n → Only H → SqE K H a (ns.map V.int) → sp [.ref a] H (fun v _ => v = .bl true) fun _ _ _ => False) ∧ ∀ base : Heap, K.In base → base.Ns mainGlobals mg → FnG l.prog w K mg base (CX w) k fa fd [x] sp)
    (hCX : ∀ (w : World) (H : Hp) (s : Shared) (e : Value) (s' : Shared), CX w [] H s (fun _ _ _ => False) e s' → False) : PySem.W.WalkO q loose XP YP l.row.toRowW d [] (fun f vs => PySem.call f vs) := by
  refine Att.attach_call hn hdf fun w s₀ s₁ mg mb fa o pm cd doc a vs ns G Y ho hd hcd hmg hobj hints hlen hg => ?_
  obtain ⟨K, fd, sp, KX, hb, hsp, hF⟩ := F w mg fa _ Y G.T.g hmg
  exact law_callG KX G.T.g G.T.b G.T.builtins G.T.nolimit hg hobj hints (Nat.le_trans hlen hn2) hr hF hb (fun H hO hS => hsp H a ns hlen hO hS) fun H e s' => hCX w H s₁ e s'
end DL

set_option Elab.async false
set_option linter.all false
set_option maxRecDepth 100000
set_option maxHeartbeats 2000000
namespace DL
open PySem PySem.Spec PyProof.Rows L2

/-! ## values as plain data, outcomes -/
structure Drw where
  great : List Int
  rest : Int
  cells : List Int
  turn : Int

structure Err where
  cls : Str
  arg : PyData

inductive Out (α : Type) where
  | ok (a : α) (s : Drw)
  | exc (e : Err) (s : Drw)
  | bad

def DM (α : Type) : Type := Drw → Out α
namespace DM
def ret {α : Type} (a : α) : DM α := fun s => .ok a s
def bnd {α β : Type} (x : DM α) (f : α → DM β) : DM β := fun s => match x s with
  | .ok a s' => f a s'
  | .exc e s' => .exc e s'
  | .bad => .bad
def fail {α : Type} : DM α := fun _ => .bad
def thr {α : Type} (e : Err) : DM α := fun s => .exc e s
end DM
instance : Monad DM where
  pure := DM.ret
  bind := DM.bnd
def DM.opt {α : Type} : Option α → DM α
  | some a => pure a
  | none => DM.fail

/-! ## what a value reads as, over a frozen heap -/
def kD : Key → PyData
  | .inl i => .int i
  | .inr x => .str x

def hle (F F' : Hp) : Prop := ∀ a o, F a = some o → F' a = some o
theorem hle.refl (F : Hp) : hle F F := fun _ _ h => h
theorem hle.trans {F G H : Hp} (a : hle F G) (b : hle G H) : hle F H := fun x o h => b x o (a x o h)
/-- what may be read in F may be read in F' -/
def rle (F F' : Hp) : Prop := ∀ a u, (∀ o w, u ≠ HO.frz o w) → Rd F a u → Rd F' a u
theorem hle.rle {F F' : Hp} (h : hle F F') : rle F F' := fun a u _ r => by
  rcases r with r | ⟨o, r⟩
  · exact .inl (h a _ r)
  · exact .inr ⟨o, h a _ r⟩
theorem rle.trans {F G H : Hp} (a : rle F G) (b : rle G H) : rle F H := fun x o n h => b x o n (a x o n h)

structure Sig where
  K : PySem.W.Frag
  da : Option (Addr × Addr × Addr)
  sp : Hp → V → PyData → Prop
  mono : ∀ {F F' : Hp} {v : V} {p : PyData}, rle F F' → sp F v p → sp F' v p

def spc (p : PyData) : PyData := .dict [(.list [], p)]

mutual
inductive Rp (S : Sig) (F : Hp) : V → PyData → Prop
  | non : Rp S F .non .none
  | bl (b : Bool) : Rp S F (.bl b) (.bool b)
  | int (i : Int) : Rp S F (.int i) (.int i)
  | str (x : Str) : Rp S F (.str x) (.str x)
  | lst {a : Addr} {xs : List V} {ds : List PyData} : SqE S.K F a xs → RpAll S F xs ds → Rp S F (.ref a) (.list ds)
  | tup {a : Addr} {xs : List V} {ds : List PyData} : SqT S.K F a xs → RpAll S F xs ds → Rp S F (.ref a) (.tuple ds)
  | dK {a : Addr} {kvs : List (Key × V)} {ds : List (PyData × PyData)} : Rd F a (.dK kvs) → RpKs S F kvs ds → Rp S F (.ref a) (.dict ds)
  | dT {a : Addr} {kvs : List (List Key × V)} {ds : List (PyData × PyData)} : Rd F a (.dT kvs) → RpTs S F kvs ds → Rp S F (.ref a) (.dict ds)
  | spc {v : V} {p : PyData} : S.sp F v p → Rp S F v (spc p)
inductive RpAll (S : Sig) (F : Hp) : List V → List PyData → Prop
  | nil : RpAll S F [] []
  | cons {v : V} {vs : List V} {d : PyData} {ds : List PyData} : Rp S F v d → RpAll S F vs ds → RpAll S F (v :: vs) (d :: ds)
inductive RpKs (S : Sig) (F : Hp) : List (Key × V) → List (PyData × PyData) → Prop
  | nil : RpKs S F [] []
  | cons {k : Key} {v : V} {vs : List (Key × V)} {d : PyData} {ds : List (PyData × PyData)} : Rp S F v d → RpKs S F vs ds → RpKs S F ((k, v) :: vs) ((kD k, d) :: ds)
inductive RpTs (S : Sig) (F : Hp) : List (List Key × V) → List (PyData × PyData) → Prop
  | nil : RpTs S F [] []
  | cons {k : List Key} {v : V} {vs : List (List Key × V)} {d : PyData} {ds : List (PyData × PyData)} : Rp S F v d → RpTs S F vs ds → RpTs S F ((k, v) :: vs) ((.tuple (k.map kD), d) :: ds)
end

theorem sqL_mono {K : PySem.W.Frag} {F F' : Hp} {a : Addr} {xs : List V} (h : rle F F') (x : SqL K F a xs) : SqL K F' a xs := by
  rcases x with r | r
  · exact .inl (h a _ (fun _ _ z => nomatch z) r)
  · exact .inr r
theorem sqE_mono {K : PySem.W.Frag} {F F' : Hp} {a : Addr} {xs : List V} (h : rle F F') (x : SqE K F a xs) : SqE K F' a xs := by
  rcases x with r | r
  · exact .inl (h a _ (fun _ _ z => nomatch z) r)
  · exact .inr r
theorem sqT_mono {K : PySem.W.Frag} {F F' : Hp} {a : Addr} {xs : List V} (h : rle F F') (x : SqT K F a xs) : SqT K F' a xs := by
  rcases x with r | r
  · exact .inl (h a _ (fun _ _ z => nomatch z) r)
  · exact .inr r

section
variable {S : Sig} {F F' : Hp}
mutual
theorem Rp.mono (h : rle F F') : ∀ (d : PyData) (v : V), Rp S F v d → Rp S F' v d
  | .none, _, r => by cases r; exact .non
  | .bool _, _, r => by cases r; exact .bl _
  | .int _, _, r => by cases r; exact .int _
  | .str _, _, r => by cases r; exact .str _
  | .list ds, _, r => by
    cases r with
    | lst h1 h2 => exact .lst (sqE_mono h h1) (RpAll.mono h ds _ h2)
  | .tuple ds, _, r => by
    cases r with
    | tup h1 h2 => exact .tup (sqT_mono h h1) (RpAll.mono h ds _ h2)
  | .dict ds, _, r => by
    cases r with
    | dK h1 h2 => exact .dK (h _ _ (fun _ _ z => nomatch z) h1) (RpKs.mono h ds _ h2)
    | dT h1 h2 => exact .dT (h _ _ (fun _ _ z => nomatch z) h1) (RpTs.mono h ds _ h2)
    | spc h1 => exact .spc (S.mono h h1)
theorem RpAll.mono (h : rle F F') : ∀ (ds : List PyData) (vs : List V), RpAll S F vs ds → RpAll S F' vs ds
  | [], _, r => by cases r; exact .nil
  | d :: ds, _, r => by
    cases r with
    | cons h1 h2 => exact .cons (Rp.mono h d _ h1) (RpAll.mono h ds _ h2)
theorem RpKs.mono (h : rle F F') : ∀ (ds : List (PyData × PyData)) (vs : List (Key × V)), RpKs S F vs ds → RpKs S F' vs ds
  | [], _, r => by cases r; exact .nil
  | (_, d) :: ds, _, r => by
    cases r with
    | cons h1 h2 => exact .cons (Rp.mono h d _ h1) (RpKs.mono h ds _ h2)
theorem RpTs.mono (h : rle F F') : ∀ (ds : List (PyData × PyData)) (vs : List (List Key × V)), RpTs S F vs ds → RpTs S F' vs ds
  | [], _, r => by cases r; exact .nil
  | (_, d) :: ds, _, r => by
    cases r with
    | cons h1 h2 => exact .cons (Rp.mono h d _ h1) (RpTs.mono h ds _ h2)
end
theorem RpAll.len : ∀ {vs : List V} {ds : List PyData}, RpAll S F vs ds → vs.length = ds.length
  | _, _, .nil => rfl
  | _, _, .cons _ t => by simp [RpAll.len t]
theorem RpAll.get : ∀ {vs : List V} {ds : List PyData} {i : Nat} {d : PyData}, RpAll S F vs ds → ds[i]? = some d → ∃ v, vs[i]? = some v ∧ Rp S F v d
  | _, _, i, _, .nil, e => by simp at e
  | _, _, 0, _, .cons r _, e => by simp at e; subst e; exact ⟨_, rfl, r⟩
  | _, _, i + 1, d, .cons _ t, e => by
    obtain ⟨v, h1, h2⟩ := RpAll.get (i := i) (d := d) t (by simpa using e)
    exact ⟨v, by simpa using h1, h2⟩
theorem RpAll.getV : ∀ {vs : List V} {ds : List PyData} {i : Nat} {v : V}, RpAll S F vs ds → vs[i]? = some v → ∃ d, ds[i]? = some d ∧ Rp S F v d
  | _, _, i, _, .nil, e => by simp at e
  | _, _, 0, _, .cons r _, e => by simp at e; subst e; exact ⟨_, rfl, r⟩
  | _, _, i + 1, v, .cons _ t, e => by
    obtain ⟨d, h1, h2⟩ := RpAll.getV (i := i) (v := v) t (by simpa using e)
    exact ⟨d, by simpa using h1, h2⟩
theorem RpAll.append : ∀ {vs ws : List V} {ds es : List PyData}, RpAll S F vs ds → RpAll S F ws es → RpAll S F (vs ++ ws) (ds ++ es)
  | _, _, _, _, .nil, s => s
  | _, _, _, _, .cons r t, s => .cons r (RpAll.append t s)
theorem RpAll.take : ∀ {vs : List V} {ds : List PyData} (n : Nat), RpAll S F vs ds → RpAll S F (vs.take n) (ds.take n)
  | _, _, 0, _ => by simp; exact .nil
  | _, _, n + 1, .nil => .nil
  | _, _, n + 1, .cons r t => .cons r (RpAll.take n t)
theorem RpAll.drop : ∀ {vs : List V} {ds : List PyData} (n : Nat), RpAll S F vs ds → RpAll S F (vs.drop n) (ds.drop n)
  | _, _, 0, r => r
  | _, _, n + 1, .nil => .nil
  | _, _, n + 1, .cons _ t => RpAll.drop n t
theorem RpAll.set : ∀ {vs : List V} {ds : List PyData} (i : Nat) {v : V} {d : PyData}, RpAll S F vs ds → Rp S F v d → RpAll S F (vs.set i v) (ds.set i d)
  | _, _, _, _, _, .nil, _ => .nil
  | _, _, 0, _, _, .cons _ t, q => .cons q t
  | _, _, i + 1, _, _, .cons r t, q => .cons r (RpAll.set i t q)
theorem RpAll.eraseIdx : ∀ {vs : List V} {ds : List PyData} (i : Nat), RpAll S F vs ds → RpAll S F (vs.eraseIdx i) (ds.eraseIdx i)
  | _, _, _, .nil => .nil
  | _, _, 0, .cons _ t => t
  | _, _, i + 1, .cons r t => .cons r (RpAll.eraseIdx i t)
theorem RpAll.ints : ∀ (ns : List Int), RpAll S F (ns.map V.int) (ns.map PyData.int)
  | [] => .nil
  | n :: ns => .cons (.int n) (RpAll.ints ns)
end

/-! ## the state: frozen heap F within H, the draw -/
def isDrw (S : Sig) (a : Addr) : Prop := ∃ p, S.da = some p ∧ (a = p.1 ∨ a = p.2.1)
def drwK (g c : Addr) (s : Drw) : List (Key × V) := [(.inr "great", .ref g), (.inr "rest", .int s.rest), (.inr "cells", .ref c), (.inr "turn", .int s.turn)]
structure DrwAt (H F : Hp) (p : Addr × Addr × Addr) (s : Drw) : Prop where
  hd : H p.1 = some (.dK (drwK p.2.1 p.2.2 s))
  hg : H p.2.1 = some (.lst (s.great.map V.int))
  hc : F p.2.2 = some (.lst (s.cells.map V.int))
  ne : p.1 ≠ p.2.1
  fd : F p.1 = none
  fg : F p.2.1 = none
structure Stt (S : Sig) (F H : Hp) (s : Drw) : Prop where
  le : hle F H
  drw : ∀ p, S.da = some p → DrwAt H F p s

/-- what evaluating does: the frozen heap grows at new places, all that stood stands, the draw aside -/
structure Stp (S : Sig) (F H F' H' : Hp) : Prop where
  le : hle F F'
  new : ∀ a o, H a = some o → F' a = F a
  keep : ∀ a o, H a = some o → ¬ isDrw S a → H' a = some o
  there : ∀ a o, H a = some o → ∃ o', H' a = some o'
theorem Stp.refl {S : Sig} {F H : Hp} : Stp S F H F H := ⟨hle.refl _, fun _ _ _ => rfl, fun _ _ h _ => h, fun _ o h => ⟨o, h⟩⟩
theorem Stp.trans {S : Sig} {F H F1 H1 F2 H2 : Hp} (a : Stp S F H F1 H1) (b : Stp S F1 H1 F2 H2) : Stp S F H F2 H2 where
  le := a.le.trans b.le
  new := fun x o h => by
    obtain ⟨o', h'⟩ := a.there x o h
    rw [b.new x o' h', a.new x o h]
  keep := fun x o h n => b.keep x o (a.keep x o h n) n
  there := fun x o h => by
    obtain ⟨o', h'⟩ := a.there x o h
    exact b.there x o' h'

/-- a new object, not frozen -/
theorem Stp.own {S : Sig} {F H : Hp} {p : Addr} {o : HO} (hp : H p = none) : Stp S F H F (upd H p o) where
  le := hle.refl _
  new := fun _ _ _ => rfl
  keep := fun a u h _ => by rw [upd_ne (ne_of_none h hp)]; exact h
  there := fun a u h => ⟨u, by rw [upd_ne (ne_of_none h hp)]; exact h⟩
theorem Stt.own {S : Sig} {F H : Hp} {s : Drw} {p : Addr} {o : HO} (x : Stt S F H s) (hp : H p = none) : Stt S F (upd H p o) s where
  le := fun a u h => by rw [upd_ne (ne_of_none (x.le a u h) hp)]; exact x.le a u h
  drw := fun q hq => by
    have d := x.drw q hq
    exact ⟨by rw [upd_ne (ne_of_none d.hd hp)]; exact d.hd, by rw [upd_ne (ne_of_none d.hg hp)]; exact d.hg, d.hc, d.ne, d.fd, d.fg⟩
theorem Stt.fnone {S : Sig} {F H : Hp} {s : Drw} {p : Addr} (x : Stt S F H s) (hp : H p = none) : F p = none := by
  cases e : F p with
  | none => rfl
  | some o => have := x.le p o e; rw [hp] at this; cases this
/-- .. frozen -/
theorem Stp.frz {S : Sig} {F H : Hp} {p : Addr} {o : HO} (hp : H p = none) (hf : F p = none) : Stp S F H (upd F p o) (upd H p o) where
  le := fun a u h => by rw [upd_ne (ne_of_none h hf)]; exact h
  new := fun a u h => by rw [upd_ne (ne_of_none h hp)]
  keep := fun a u h _ => by rw [upd_ne (ne_of_none h hp)]; exact h
  there := fun a u h => ⟨u, by rw [upd_ne (ne_of_none h hp)]; exact h⟩
theorem Stt.frz {S : Sig} {F H : Hp} {s : Drw} {p : Addr} {o : HO} (x : Stt S F H s) (hp : H p = none) : Stt S (upd F p o) (upd H p o) s where
  le := fun a u h => by
    by_cases e : a = p
    · subst e; rw [upd_same] at h ⊢; exact h
    · rw [upd_ne e] at h ⊢; exact x.le a u h
  drw := fun q hq => by
    have d := x.drw q hq
    have n1 := ne_of_none d.hd hp
    have n2 := ne_of_none d.hg hp
    have n3 := ne_of_none (x.le _ _ d.hc) hp
    exact ⟨by rw [upd_ne n1]; exact d.hd, by rw [upd_ne n2]; exact d.hg, by rw [upd_ne n3]; exact d.hc, d.ne, by rw [upd_ne n1]; exact d.fd, by rw [upd_ne n2]; exact d.fg⟩
end DL

set_option Elab.async false
set_option autoImplicit false
set_option linter.all false
set_option maxRecDepth 100000
set_option maxHeartbeats 2000000
namespace DL
open PySem PySem.Spec PyProof.Rows L2

/-! ## slots -/
abbrev Sl := List (Option PyData)
abbrev Stk := List (Option V)
/-- what stands at a, not frozen, reads as d -/
inductive Ctn (S : Sig) (F H : Hp) (a : Addr) : PyData → Prop
  | lst {xs : List V} {ds : List PyData} : H a = some (.lst xs) → RpAll S F xs ds → Ctn S F H a (.list ds)
  | dK {kvs : List (Key × V)} {ds : List (PyData × PyData)} : H a = some (.dK kvs) → RpKs S F kvs ds → Ctn S F H a (.dict ds)
  | dT {kvs : List (List Key × V)} {ds : List (PyData × PyData)} : H a = some (.dT kvs) → RpTs S F kvs ds → Ctn S F H a (.dict ds)
structure Own (S : Sig) (F H : Hp) (a : Addr) (d : PyData) : Prop where
  c : Ctn S F H a d
  fa : F a = none
  nd : ¬ isDrw S a
theorem Own.ne {S : Sig} {F H : Hp} {a : Addr} {d : PyData} (o : Own S F H a d) : ∃ u, H a = some u := by
  cases o.c with
  | lst h _ => exact ⟨_, h⟩
  | dK h _ => exact ⟨_, h⟩
  | dT h _ => exact ⟨_, h⟩
theorem Own.step {S : Sig} {F H F' H' : Hp} {a : Addr} {d : PyData} (o : Own S F H a d) (x : Stp S F H F' H') : Own S F' H' a d := by
  obtain ⟨u, hu⟩ := o.ne
  refine ⟨?_, by rw [x.new a u hu]; exact o.fa, o.nd⟩
  cases o.c with
  | lst h r => exact .lst (x.keep a _ h o.nd) (RpAll.mono x.le.rle _ _ r)
  | dK h r => exact .dK (x.keep a _ h o.nd) (RpKs.mono x.le.rle _ _ r)
  | dT h r => exact .dT (x.keep a _ h o.nd) (RpTs.mono x.le.rle _ _ r)

/-- the slots: κ tells which are the def's own containers; ρ what they read as -/
structure EnvR (S : Sig) (H0 F H : Hp) (κ : List Bool) (ρ : Sl) (σ : Stk) : Prop where
  len : ρ.length = σ.length
  dat : ∀ (i : Nat) (d : PyData), κ[i]? ≠ some true → ρ[i]? = some (some d) → ∃ v, σ[i]? = some (some v) ∧ Rp S F v d
  own : ∀ (i : Nat) (d : PyData), κ[i]? = some true → ρ[i]? = some (some d) → ∃ a, σ[i]? = some (some (.ref a)) ∧ Own S F H a d ∧ H0 a = none
  apart : ∀ (i j : Nat) (a : Addr) (d e : PyData), κ[i]? = some true → κ[j]? = some true → ρ[i]? = some (some d) → ρ[j]? = some (some e) → σ[i]? = some (some (.ref a)) → σ[j]? = some (some (.ref a)) → i = j
theorem EnvR.step {S : Sig} {H0 F H F' H' : Hp} {κ : List Bool} {ρ : Sl} {σ : Stk} (e : EnvR S H0 F H κ ρ σ) (x : Stp S F H F' H') : EnvR S H0 F' H' κ ρ σ where
  len := e.len
  dat := fun i d hk h => by
    obtain ⟨v, h1, h2⟩ := e.dat i d hk h
    exact ⟨v, h1, Rp.mono x.le.rle _ _ h2⟩
  own := fun i d hk h => by
    obtain ⟨a, h1, h2, h3⟩ := e.own i d hk h
    exact ⟨a, h1, h2.step x, h3⟩
  apart := e.apart

/-! ## results -/
/-- of the heap ahead, the frozen heap and the heap behind, the value: what is told -/
abbrev Rel (β α : Type) := Hp → Hp → Hp → β → α → Prop
structure Rel.Ok {β α : Type} (S : Sig) (R : Rel β α) : Prop where
  step : ∀ {H F1 H1 F2 H2 : Hp} {v : β} {d : α}, R H F1 H1 v d → Stp S F1 H1 F2 H2 → R H F2 H2 v d
  back : ∀ {H H1 F2 H2 : Hp} {v : β} {d : α}, (∀ a o, H a = some o → ∃ o', H1 a = some o') → R H1 F2 H2 v d → R H F2 H2 v d
def RD (S : Sig) : Rel V PyData := fun _ F _ v d => Rp S F v d
def RO (S : Sig) : Rel V PyData := fun H F' H' v d => ∃ a, v = .ref a ∧ Own S F' H' a d ∧ H a = none
def RB (S : Sig) : Rel V PyData := fun _ F H v d => Rp S F v d ∨ ∃ a, v = .ref a ∧ Own S F H a d
def RL (S : Sig) : Rel (List V) (List PyData) := fun _ F _ vs ds => RpAll S F vs ds
def RE {α : Type} : Rel α α := fun _ _ _ v d => v = d
theorem RD.ok {S : Sig} : Rel.Ok S (RD S) := ⟨fun r x => Rp.mono x.le.rle _ _ r, fun _ r => r⟩
theorem RL.ok {S : Sig} : Rel.Ok S (RL S) := ⟨fun r x => RpAll.mono x.le.rle _ _ r, fun _ r => r⟩
theorem RE.ok {S : Sig} {α : Type} : Rel.Ok S (RE (α := α)) := ⟨fun r _ => r, fun _ r => r⟩
theorem RB.ok {S : Sig} : Rel.Ok S (RB S) := ⟨fun r x => by
  rcases r with r | ⟨a, e, o⟩
  · exact .inl (Rp.mono x.le.rle _ _ r)
  · exact .inr ⟨a, e, o.step x⟩, fun _ r => r⟩
theorem RO.ok {S : Sig} : Rel.Ok S (RO S) := ⟨fun ⟨a, e, o, n⟩ x => ⟨a, e, o.step x, n⟩, fun {H H1 F2 H2 v d} k ⟨a, e, o, n⟩ => ⟨a, e, o, by
  cases q : H a with
  | none => rfl
  | some u =>
    obtain ⟨u', q'⟩ := k a u q
    rw [n] at q'; cases q'⟩⟩

def Post {β α : Type} (S : Sig) (F H : Hp) (W : WX) (σ : Stk) (er : Hp → Err → Value → Option Addr → Prop) (R : Rel β α) (o : Out α) (Q : β → Hp → Prop) : Prop :=
  match o with
  | .ok d s' => ∀ v F' H', Stp S F H F' H' → Stt S F' H' s' → R H F' H' v d → Q v H'
  | .exc e s' => ∀ cls dx F' H', Stp S F H F' H' → Stt S F' H' s' → er F' e cls dx → W cls dx σ H'
  | .bad => False

/-- the fixed part of a def's reading: data's signature, how errors lie, the wish -/
structure Cf where
  S : Sig
  er : Hp → Err → Value → Option Addr → Prop
  W : WX

abbrev Rdg (β : Type) := Stk → Hp → (β → Hp → Prop) → Prop
/-- the reading t gives what f reckons -/
def Sat {β α : Type} (C : Cf) (κ : List Bool) (t : Rdg β) (R : Rel β α) (f : Sl → DM α) : Prop :=
  ∀ (H0 F H : Hp) (ρ : Sl) (σ : Stk) (s : Drw) (Q : β → Hp → Prop), Stt C.S F H s → EnvR C.S H0 F H κ ρ σ → Post C.S F H C.W σ C.er R (f ρ s) Q → t σ H Q

theorem Post.mono {β α : Type} {S : Sig} {F H : Hp} {W : WX} {σ : Stk} {er : Hp → Err → Value → Option Addr → Prop} {R R' : Rel β α} {o : Out α} {Q Q' : β → Hp → Prop} (h : Post S F H W σ er R o Q)
    (hq : ∀ v d s' F' H', o = .ok d s' → Stp S F H F' H' → Stt S F' H' s' → R' H F' H' v d → (∀ v F' H', Stp S F H F' H' → Stt S F' H' s' → R H F' H' v d → Q v H') → Q' v H') : Post S F H W σ er R' o Q' := by
  cases o with
  | ok d s' => exact fun v F' H' a b c => hq v d s' F' H' rfl a b c h
  | exc e s' => exact h
  | bad => exact h

section
variable {C : Cf} {κ : List Bool} {β γ α δ : Type}
/-- the first of two -/
theorem Post.fst {S : Sig} {F H : Hp} {W : WX} {σ : Stk} {er : Hp → Err → Value → Option Addr → Prop} {Ra : Rel β α} {Rg : Rel γ δ} {x : DM α} {g : α → DM δ} {s : Drw} {Q : γ → Hp → Prop} {Q1 : β → Hp → Prop} (og : Rel.Ok S Rg)
    (hp : Post S F H W σ er Rg ((x >>= g) s) Q) (h : ∀ v d s' F' H', Stp S F H F' H' → Stt S F' H' s' → Ra H F' H' v d → Post S F' H' W σ er Rg (g d s') Q → Q1 v H') : Post S F H W σ er Ra (x s) Q1 := by
  have hp' : Post S F H W σ er Rg (DM.bnd x g s) Q := hp
  unfold DM.bnd at hp'
  cases e : x s with
  | bad => rw [e] at hp'; exact hp'
  | exc x s' => rw [e] at hp'; exact hp'
  | ok d s' =>
    rw [e] at hp'
    intro v F1 H1 st1 ss1 r1
    refine h v d s' F1 H1 st1 ss1 r1 ?_
    have hp2 : Post S F H W σ er Rg (g d s') Q := hp'
    cases e2 : g d s' with
    | bad => rw [e2] at hp2; exact hp2
    | exc x s2 =>
      rw [e2] at hp2
      exact fun cls dx F' H' a b c => hp2 cls dx F' H' (st1.trans a) b c
    | ok d2 s2 =>
      rw [e2] at hp2
      exact fun v F' H' a b c => hp2 v F' H' (st1.trans a) b (og.back st1.there c)
/-- one thing behind another -/
theorem Sat.bind {ta : Rdg β} {k : β → Rdg γ} {Ra : Rel β α} {Rg : Rel γ δ} {fa : Sl → DM α} {g : α → Sl → DM δ} (og : Rel.Ok C.S Rg) (ha : Sat C κ ta Ra fa)
    (hk : ∀ (x : β) (d : α) (Hs H0 F H : Hp) (ρ : Sl) (σ : Stk) (s : Drw) (Q : γ → Hp → Prop), Stt C.S F H s → EnvR C.S H0 F H κ ρ σ → Ra Hs F H x d → Post C.S F H C.W σ C.er Rg (g d ρ s) Q → k x σ H Q) :
    Sat C κ (fun σ H Q => ta σ H fun x H1 => k x σ H1 Q) Rg (fun ρ => fa ρ >>= fun d => g d ρ) := fun H0 F H ρ σ s Q hs he hp =>
  ha H0 F H ρ σ s _ hs he (hp.fst og fun x d s' F1 H1 st ss r hp' => hk x d H H0 F1 H1 ρ σ s' Q ss (he.step st) r hp')
/-- at the values in hand -/
theorem Sat.pure {t : Rdg β} {R : Rel β α} {f : Sl → DM α} (h : ∀ (H0 F H : Hp) (ρ : Sl) (σ : Stk) (s : Drw) (Q : β → Hp → Prop), Stt C.S F H s → EnvR C.S H0 F H κ ρ σ → Post C.S F H C.W σ C.er R (f ρ s) Q → t σ H Q) : Sat C κ t R f := h
theorem Sat.weak {t : Rdg β} {R R' : Rel β α} {f : Sl → DM α} (h : Sat C κ t R f) (hr : ∀ {H F' H' v d}, R H F' H' v d → R' H F' H' v d) : Sat C κ t R' f := fun H0 F H ρ σ s Q hs he hp =>
  h H0 F H ρ σ s Q hs he (hp.mono fun v d s' F' H' _ a b c k => k v F' H' a b (hr c))
end

/-! ## freezing -/
theorem freeze {S : Sig} {F H : Hp} {a : Addr} {d : PyData} {s : Drw} (o : Own S F H a d) (x : Stt S F H s) : ∃ F', hle F F' ∧ (∀ b, b ≠ a → F' b = F b) ∧ Stt S F' H s ∧ Rp S F' (.ref a) d := by
  obtain ⟨u, hu⟩ := o.ne
  have hl : hle F (upd F a u) := fun b v h => by rw [upd_ne (ne_of_none h o.fa)]; exact h
  refine ⟨upd F a u, hl, fun b hb => upd_ne hb, ⟨fun b v h => ?_, fun p hp => ?_⟩, ?_⟩
  · by_cases e : b = a
    · subst e; rw [upd_same] at h; cases h; exact hu
    · rw [upd_ne e] at h; exact x.le b v h
  · have q := x.drw p hp
    have nd := o.nd
    have n1 : p.1 ≠ a := fun e => nd ⟨p, hp, .inl e.symm⟩
    have n2 : p.2.1 ≠ a := fun e => nd ⟨p, hp, .inr e.symm⟩
    have n3 := ne_of_none q.hc o.fa
    exact ⟨q.hd, q.hg, by rw [upd_ne n3]; exact q.hc, q.ne, by rw [upd_ne n1]; exact q.fd, by rw [upd_ne n2]; exact q.fg⟩
  · cases o.c with
    | lst h r => rw [hu] at h; cases h; exact .lst (.inl (.inl upd_same)) (RpAll.mono hl.rle _ _ r)
    | dK h r => rw [hu] at h; cases h; exact .dK (.inl upd_same) (RpKs.mono hl.rle _ _ r)
    | dT h r => rw [hu] at h; cases h; exact .dT (.inl upd_same) (RpTs.mono hl.rle _ _ r)
theorem Sat.frz {C : Cf} {κ : List Bool} {t : Rdg V} {f : Sl → DM PyData} (h : Sat C κ t (RO C.S) f) : Sat C κ t (RD C.S) f := fun H0 F H ρ σ s Q hs he hp =>
  h H0 F H ρ σ s Q hs he (hp.mono fun v d s' F' H' _ st ss ⟨a, ev, o, n⟩ k => by
    subst ev
    obtain ⟨F2, h1, h2, h3, h4⟩ := freeze o ss
    refine k _ F2 H' ⟨st.le.trans h1, fun b u hb => ?_, st.keep, st.there⟩ h3 h4
    rw [h2 b (fun e => by subst e; rw [n] at hb; cases hb)]
    exact st.new b u hb)
theorem Sat.bor {C : Cf} {κ : List Bool} {t : Rdg V} {f : Sl → DM PyData} (h : Sat C κ t (RD C.S) f) : Sat C κ t (RB C.S) f := h.weak fun r => .inl r
theorem Sat.borO {C : Cf} {κ : List Bool} {t : Rdg V} {f : Sl → DM PyData} (h : Sat C κ t (RO C.S) f) : Sat C κ t (RB C.S) f := h.weak fun ⟨a, e, o, _⟩ => .inr ⟨a, e, o⟩

/-! ## reading a container -/
theorem RB.list {S : Sig} {F H Hs : Hp} {v : V} {ds : List PyData} (hl : hle F H) (r : RB S Hs F H v (.list ds)) : ∃ a xs, v = .ref a ∧ SqE S.K H a xs ∧ RpAll S F xs ds := by
  rcases r with r | ⟨a, e, o⟩
  · cases r with
    | lst h1 h2 => exact ⟨_, _, rfl, sqE_mono hl.rle h1, h2⟩
  · cases o.c with
    | lst h1 h2 => exact ⟨a, _, e, .inl (.inl h1), h2⟩
theorem RB.tuple {S : Sig} {F H Hs : Hp} {v : V} {ds : List PyData} (hl : hle F H) (r : RB S Hs F H v (.tuple ds)) : ∃ a xs, v = .ref a ∧ SqT S.K H a xs ∧ RpAll S F xs ds := by
  rcases r with r | ⟨a, e, o⟩
  · cases r with
    | tup h1 h2 => exact ⟨_, _, rfl, sqT_mono hl.rle h1, h2⟩
  · cases o.c

/-! ## the judgements -/
structure PX {β α : Type} (X : Cx) (C : Cf) (κ : List Bool) (R : Rel β α) (J : Rdg β → Prop) (f : Sl → DM α) : Prop where
  ex : ∃ t, J t ∧ Sat C κ t R f
/-- data; a new container of ours; anything that may be read -/
abbrev PD (X : Cx) (C : Cf) (κ : List Bool) (e : Expr) (f : Sl → DM PyData) : Prop := PX X C κ (RD C.S) (PE X e) f
abbrev PO (X : Cx) (C : Cf) (κ : List Bool) (e : Expr) (f : Sl → DM PyData) : Prop := PX X C κ (RO C.S) (PE X e) f
abbrev PB (X : Cx) (C : Cf) (κ : List Bool) (e : Expr) (f : Sl → DM PyData) : Prop := PX X C κ (RB C.S) (PE X e) f
abbrev PTd (X : Cx) (C : Cf) (κ : List Bool) (e : Expr) (f : Sl → DM Bool) : Prop := PX X C κ RE (PT X e) f
abbrev PAd (X : Cx) (C : Cf) (κ : List Bool) (es : List Expr) (f : Sl → DM (List PyData)) : Prop := PX X C κ (RL C.S) (PA X es) f

section
variable {X : Cx} {C : Cf} {κ : List Bool} {e a b : Expr} {es : List Expr} {f fa fb : Sl → DM PyData} {pos : Pos}
theorem PX.frz (h : PO X C κ e f) : PD X C κ e f := let ⟨t, h1, h2⟩ := h.ex; ⟨t, h1, h2.frz⟩
theorem PX.bor (h : PD X C κ e f) : PB X C κ e f := let ⟨t, h1, h2⟩ := h.ex; ⟨t, h1, h2.bor⟩
theorem PX.borO (h : PO X C κ e f) : PB X C κ e f := let ⟨t, h1, h2⟩ := h.ex; ⟨t, h1, h2.borO⟩
/-- a name whose slot is data -/
def sGet (i : Nat) (ρ : Sl) : DM PyData := match ρ[i]? with
  | some (some d) => pure d
  | _ => DM.fail
theorem sGet_some {i : Nat} {ρ : Sl} {d : PyData} (h : ρ[i]? = some (some d)) (s : Drw) : sGet i ρ s = .ok d s := by unfold sGet; rw [h]; rfl
theorem sGet_cases {i : Nat} {ρ : Sl} (s : Drw) : (∃ d, ρ[i]? = some (some d) ∧ sGet i ρ s = .ok d s) ∨ sGet i ρ s = .bad := by
  unfold sGet
  cases h : ρ[i]? with
  | none => exact .inr rfl
  | some o =>
    cases o with
    | none => exact .inr rfl
    | some d => exact .inl ⟨d, rfl, rfl⟩
theorem pd_var (i : Nat) (h : PE X e (tVar i)) (hk : κ[i]? ≠ some true) : PD X C κ e (sGet i) := ⟨_, h, fun H0 F H ρ σ s Q hs he hp => by
  rcases sGet_cases (i := i) (ρ := ρ) s with ⟨d, hd, e⟩ | e
  · rw [e] at hp
    obtain ⟨v, h1, h2⟩ := he.dat i d hk hd
    exact ⟨v, h1, hp v F H .refl hs h2⟩
  · rw [e] at hp; exact hp.elim⟩
/-- a name, to be read now -/
theorem pb_var (i : Nat) (h : PE X e (tVar i)) : PB X C κ e (sGet i) := ⟨_, h, fun H0 F H ρ σ s Q hs he hp => by
  rcases sGet_cases (i := i) (ρ := ρ) s with ⟨d, hd, e⟩ | e
  · rw [e] at hp
    by_cases hk : κ[i]? = some true
    · obtain ⟨a, h1, h2, _⟩ := he.own i d hk hd
      exact ⟨_, h1, hp _ F H .refl hs (.inr ⟨a, rfl, h2⟩)⟩
    · obtain ⟨v, h1, h2⟩ := he.dat i d hk hd
      exact ⟨v, h1, hp v F H .refl hs (.inl h2)⟩
  · rw [e] at hp; exact hp.elim⟩
theorem pd_const {v : V} {d : PyData} (h : PE X e (tC v)) (r : ∀ S F, Rp S F v d) : PD X C κ e (fun _ => pure d) := ⟨_, h, fun H0 F H ρ σ s Q hs he hp => hp v F H .refl hs (r _ _)⟩
theorem pd_int {i : Int} {j} : PD X C κ (.Constant (.int i) j pos) (fun _ => pure (.int i)) := pd_const pe_int fun _ _ => .int i
theorem pd_str {x : Str} {j} : PD X C κ (.Constant (.str x) j pos) (fun _ => pure (.str x)) := pd_const pe_str fun _ _ => .str x
theorem pd_bool {b : Bool} {j} : PD X C κ (.Constant (.bool b) j pos) (fun _ => pure (.bool b)) := pd_const pe_bl fun _ _ => .bl b
theorem pd_none {j} : PD X C κ (.Constant .none j pos) (fun _ => pure .none) := pd_const pe_non fun _ _ => .non
/-- argument lists -/
def aCons (f : Sl → DM PyData) (g : Sl → DM (List PyData)) : Sl → DM (List PyData) := fun ρ => f ρ >>= fun d => g ρ >>= fun ds => pure (d :: ds)
theorem pad_nil : PAd X C κ [] (fun _ => pure []) := ⟨_, pa_nil, fun H0 F H ρ σ s Q hs he hp => hp [] F H .refl hs .nil⟩
theorem pad_cons {g : Sl → DM (List PyData)} (ha : PD X C κ e f) (hr : PAd X C κ es g) (hs : starEach (e :: es) X.env = (false, eval e X.env) :: starEach es X.env := by rfl) : PAd X C κ (e :: es) (aCons f g) := by
  obtain ⟨ta, h1, h2⟩ := ha.ex
  obtain ⟨tr, k1, k2⟩ := hr.ex
  exact ⟨_, pa_cons h1 k1 hs, fun H0 F H ρ σ s Q hs he hp => h2 H0 F H ρ σ s _ hs he (hp.fst RL.ok fun x d s' F1 H1 st ss r hp1 => k2 H0 F1 H1 ρ σ s' _ ss (he.step st)
    (hp1.fst RL.ok fun xs ds s2 F2 H2 st2 ss2 rs hp2 => hp2 (x :: xs) F2 H2 .refl ss2 (.cons (Rp.mono st2.le.rle _ _ r) rs)))⟩
end
end DL

set_option Elab.async false
set_option autoImplicit false
set_option linter.all false
set_option maxRecDepth 100000
set_option maxHeartbeats 2000000
namespace DL
open PySem PySem.Spec PyProof.Rows L2

/-! ## operators, by values -/
abbrev PSt (C : Cf) (F H : Hp) (σ : Stk) (R : Rel V PyData) (o : Out PyData) (Q : V → Hp → Prop) : Prop := Post C.S F H C.W σ C.er R o Q
/-- the operator f gives what g reckons -/
structure OpD (X : Cx) (C : Cf) (f : Value → Value → Sem Value) (R : Rel V PyData) (g : PyData → PyData → DM PyData) : Prop where
  ex : ∃ r : R2, OpR X f r ∧ ∀ (F H Hs : Hp) (s : Drw) (σ : Stk) (x y : V) (a b : PyData) (Q : V → Hp → Prop), Stt C.S F H s → RB C.S Hs F H x a → RB C.S Hs F H y b → PSt C F H σ R (g a b s) Q → r x y H Q
theorem RB.any {S : Sig} {F H Hs Ht : Hp} {v : V} {d : PyData} (r : RB S Hs F H v d) : RB S Ht F H v d := r
theorem OpR.or {X : Cx} {f : Value → Value → Sem Value} {r1 r2 : R2} (h1 : OpR X f r1) (h2 : OpR X f r2) : OpR X f (fun x y H Q => r1 x y H Q ∨ r2 x y H Q) := by
  intro pins s σ H x y v u Q I rx ry h
  rcases h with h | h
  · exact h1 pins s σ H x y v u Q I rx ry h
  · exact h2 pins s σ H x y v u Q I rx ry h

section
variable {X : Cx} {C : Cf} {κ : List Bool} {e a b c : Expr} {es : List Expr} {f fa fb fc : Sl → DM PyData} {pos : Pos} {R : Rel V PyData} {g : PyData → PyData → DM PyData}
def f2 (g : PyData → PyData → DM PyData) (fa fb : Sl → DM PyData) : Sl → DM PyData := fun ρ => fa ρ >>= fun x => fb ρ >>= fun y => g x y
theorem sat_op {ta tb : TE} {r : R2} (og : Rel.Ok C.S R) (hr : ∀ (F H Hs : Hp) (s : Drw) (σ : Stk) (x y : V) (a b : PyData) (Q : V → Hp → Prop), Stt C.S F H s → RB C.S Hs F H x a → RB C.S Hs F H y b → PSt C F H σ R (g a b s) Q → r x y H Q)
    (ha : Sat C κ ta (RB C.S) fa) (hb : Sat C κ tb (RB C.S) fb) : Sat C κ (tOp r ta tb) R (f2 g fa fb) := fun H0 F H ρ σ s Q hs he hp =>
  ha H0 F H ρ σ s _ hs he (hp.fst og fun x d s' F1 H1 st ss r1 hp1 => hb H0 F1 H1 ρ σ s' _ ss (he.step st)
    (hp1.fst og fun y d2 s2 F2 H2 st2 ss2 r2 hp2 => hr F2 H2 H s2 σ x y d d2 Q ss2 (RB.ok.step r1 st2) r2 hp2))
theorem px_op {op : Operator} (og : Rel.Ok C.S R) (ho : OpD X C (binaryOp op) R g) (ha : PB X C κ a fa) (hb : PB X C κ b fb) : PX X C κ R (PE X (.BinOp a op b pos)) (f2 g fa fb) := by
  obtain ⟨r, h1, h2⟩ := ho.ex
  obtain ⟨ta, k1, k2⟩ := ha.ex
  obtain ⟨tb, l1, l2⟩ := hb.ex
  exact ⟨_, pe_op h1 k1 l1, sat_op og h2 k2 l2⟩
theorem px_cmp {op : CmpOp} (og : Rel.Ok C.S R) (ho : OpD X C (compareOp op) R g) (ha : PB X C κ a fa) (hb : PB X C κ b fb) (hm : behindInMarks op b = false) : PX X C κ R (PE X (.Compare a [op] [b] pos)) (f2 g fa fb) := by
  obtain ⟨r, h1, h2⟩ := ho.ex
  obtain ⟨ta, k1, k2⟩ := ha.ex
  obtain ⟨tb, l1, l2⟩ := hb.ex
  exact ⟨_, pe_cmpR h1 k1 l1 hm, sat_op og h2 k2 l2⟩
/-- a bool's truth -/
def boolOf (d : PyData) : DM Bool := match d with
  | .bool b => pure b
  | _ => DM.fail
theorem sat_test {t : TE} {f : Sl → DM PyData} (h : Sat C κ t (RD C.S) f) : Sat C κ (tTest t) RE (fun ρ => f ρ >>= boolOf) := fun H0 F H ρ σ s Q hs he hp =>
  h H0 F H ρ σ s _ hs he (hp.fst RE.ok fun x d s' F1 H1 st ss r hp1 => by
    cases d with
    | bool b => cases r; exact ⟨b, rfl, hp1 b F1 H1 .refl ss rfl⟩
    | none => exact hp1.elim
    | int i => exact hp1.elim
    | str i => exact hp1.elim
    | list i => exact hp1.elim
    | tuple i => exact hp1.elim
    | dict i => exact hp1.elim)
theorem pt_cmpD {op : CmpOp} (ho : OpD X C (compareOp op) (RD C.S) g) (ha : PB X C κ a fa) (hb : PB X C κ b fb) (hm : behindInMarks op b = false) : PTd X C κ (.Compare a [op] [b] pos) (fun ρ => f2 g fa fb ρ >>= boolOf) := by
  obtain ⟨r, h1, h2⟩ := ho.ex
  obtain ⟨ta, k1, k2⟩ := ha.ex
  obtain ⟨tb, l1, l2⟩ := hb.ex
  exact ⟨_, pt_cmpR h1 k1 l1 hm, sat_test (sat_op RD.ok h2 k2 l2)⟩
theorem pt_valD (h : PD X C κ e f) (he : ∀ whole, isTrue e X.env whole = (do let v ← whole; standAt e.pos; holding [v] (truthy v)) := by intro _; rfl) : PTd X C κ e (fun ρ => f ρ >>= boolOf) := by
  obtain ⟨t, h1, h2⟩ := h.ex
  exact ⟨_, pt_val h1 he, sat_test h2⟩
/-! ### and, or, not -/
def bAnd (f g : Sl → DM Bool) : Sl → DM Bool := fun ρ => f ρ >>= fun b => if b = true then g ρ else pure false
def bOr (f g : Sl → DM Bool) : Sl → DM Bool := fun ρ => f ρ >>= fun b => if b = true then pure true else g ρ
def bNot (f : Sl → DM Bool) : Sl → DM Bool := fun ρ => f ρ >>= fun b => pure (!b)
variable {rest : List Expr} {p q : Sl → DM Bool}
abbrev PWd (X : Cx) (C : Cf) (κ : List Bool) (e : Expr) (f : Sl → DM Bool) : Prop := PX X C κ RE (PW X e) f
theorem sat_and {t u : TT} (h : Sat C κ t RE p) (k : Sat C κ u RE q) : Sat C κ (tAnd t u) RE (bAnd p q) := fun H0 F H ρ σ s Q hs he hp =>
  h H0 F H ρ σ s _ hs he (hp.fst RE.ok fun x d s' F1 H1 st ss r hp1 => by
    cases r
    cases x with
    | true => exact k H0 F1 H1 ρ σ s' Q ss (he.step st) hp1
    | false => exact hp1 false F1 H1 .refl ss rfl)
theorem sat_or {t u : TT} (h : Sat C κ t RE p) (k : Sat C κ u RE q) : Sat C κ (tOr t u) RE (bOr p q) := fun H0 F H ρ σ s Q hs he hp =>
  h H0 F H ρ σ s _ hs he (hp.fst RE.ok fun x d s' F1 H1 st ss r hp1 => by
    cases r
    cases x with
    | true => exact hp1 true F1 H1 .refl ss rfl
    | false => exact k H0 F1 H1 ρ σ s' Q ss (he.step st) hp1)
theorem ptd_and1 (h : PTd X C κ a p) : PWd X C κ (.BoolOp .And [a] pos) p := let ⟨_, h1, h2⟩ := h.ex; ⟨_, pw_and1 h1, h2⟩
theorem ptd_or1 (h : PTd X C κ a p) : PWd X C κ (.BoolOp .Or [a] pos) p := let ⟨_, h1, h2⟩ := h.ex; ⟨_, pw_or1 h1, h2⟩
theorem ptd_and (h : PTd X C κ a p) (k : PWd X C κ (.BoolOp .And (b :: rest) pos) q) : PWd X C κ (.BoolOp .And (a :: b :: rest) pos) (bAnd p q) :=
  let ⟨_, h1, h2⟩ := h.ex; let ⟨_, k1, k2⟩ := k.ex; ⟨_, pw_and h1 k1, sat_and h2 k2⟩
theorem ptd_or (h : PTd X C κ a p) (k : PWd X C κ (.BoolOp .Or (b :: rest) pos) q) : PWd X C κ (.BoolOp .Or (a :: b :: rest) pos) (bOr p q) :=
  let ⟨_, h1, h2⟩ := h.ex; let ⟨_, k1, k2⟩ := k.ex; ⟨_, pw_or h1 k1, sat_or h2 k2⟩
theorem ptd_w (h : PWd X C κ e p) : PTd X C κ e p := let ⟨_, h1, h2⟩ := h.ex; ⟨_, h1.pt, h2⟩
theorem ptd_not (h : PTd X C κ a p) : PTd X C κ (.UnaryOp .Not a pos) (bNot p) := by
  obtain ⟨t, h1, h2⟩ := h.ex
  exact ⟨_, pt_not h1, fun H0 F H ρ σ s Q hs he hp => h2 H0 F H ρ σ s _ hs he (hp.fst RE.ok fun x d s' F1 H1 st ss r hp1 => by
    cases r
    exact hp1 _ F1 H1 .refl ss rfl)⟩
/-- as values: bools -/
def vAnd (f g : Sl → DM PyData) : Sl → DM PyData := fun ρ => f ρ >>= fun d => boolOf d >>= fun b => if b = true then g ρ else pure (.bool false)
def vOr (f g : Sl → DM PyData) : Sl → DM PyData := fun ρ => f ρ >>= fun d => boolOf d >>= fun b => if b = true then pure (.bool true) else g ρ
def vNot (f : Sl → DM PyData) : Sl → DM PyData := fun ρ => f ρ >>= fun d => boolOf d >>= fun b => pure (.bool (!b))
theorem boolOf_post {γ δ : Type} {F H : Hp} {σ : Stk} {R : Rel γ δ} {g : Bool → DM δ} {d : PyData} {s : Drw} {Q : γ → Hp → Prop} (hp : Post C.S F H C.W σ C.er R ((boolOf d >>= g) s) Q) : ∃ b, d = .bool b ∧ Post C.S F H C.W σ C.er R (g b s) Q := by
  cases d with
  | bool b => exact ⟨b, rfl, hp⟩
  | none => exact hp.elim
  | int i => exact hp.elim
  | str i => exact hp.elim
  | list i => exact hp.elim
  | tuple i => exact hp.elim
  | dict i => exact hp.elim
theorem pd_one {op : BoolOp} (h : PD X C κ a fa) : PD X C κ (.BoolOp op [a] pos) fa := let ⟨_, h1, h2⟩ := h.ex; ⟨_, pe_one h1, h2⟩
theorem pd_and (h : PD X C κ a fa) (k : PD X C κ (.BoolOp .And (b :: rest) pos) fb) : PD X C κ (.BoolOp .And (a :: b :: rest) pos) (vAnd fa fb) := by
  obtain ⟨t, h1, h2⟩ := h.ex
  obtain ⟨u, k1, k2⟩ := k.ex
  exact ⟨_, pe_and h1 k1, fun H0 F H ρ σ s Q hs he hp => h2 H0 F H ρ σ s _ hs he (hp.fst RD.ok fun x d s' F1 H1 st ss r hp1 => by
    obtain ⟨b, rfl, hp2⟩ := boolOf_post hp1
    cases r
    refine ⟨b, rfl, ?_⟩
    cases b with
    | true => exact k2 H0 F1 H1 ρ σ s' Q ss (he.step st) hp2
    | false => exact hp2 _ F1 H1 .refl ss (.bl false))⟩
theorem pd_or (h : PD X C κ a fa) (k : PD X C κ (.BoolOp .Or (b :: rest) pos) fb) : PD X C κ (.BoolOp .Or (a :: b :: rest) pos) (vOr fa fb) := by
  obtain ⟨t, h1, h2⟩ := h.ex
  obtain ⟨u, k1, k2⟩ := k.ex
  exact ⟨_, pe_or h1 k1, fun H0 F H ρ σ s Q hs he hp => h2 H0 F H ρ σ s _ hs he (hp.fst RD.ok fun x d s' F1 H1 st ss r hp1 => by
    obtain ⟨b, rfl, hp2⟩ := boolOf_post hp1
    cases r
    refine ⟨b, rfl, ?_⟩
    cases b with
    | false => exact k2 H0 F1 H1 ρ σ s' Q ss (he.step st) hp2
    | true => exact hp2 _ F1 H1 .refl ss (.bl true))⟩
theorem pd_not (h : PD X C κ a fa) : PD X C κ (.UnaryOp .Not a pos) (vNot fa) := by
  obtain ⟨t, h1, h2⟩ := h.ex
  exact ⟨_, pe_not h1, fun H0 F H ρ σ s Q hs he hp => h2 H0 F H ρ σ s _ hs he (hp.fst RD.ok fun x d s' F1 H1 st ss r hp1 => by
    obtain ⟨b, rfl, hp2⟩ := boolOf_post hp1
    cases r
    exact ⟨b, rfl, hp2 _ F1 H1 .refl ss (.bl _)⟩)⟩
/-- a if t else b -/
def vIf (p : Sl → DM Bool) (f g : Sl → DM PyData) : Sl → DM PyData := fun ρ => p ρ >>= fun b => if b = true then f ρ else g ρ
theorem px_if {c : Expr} {p : Sl → DM Bool} (og : Rel.Ok C.S R) (hc : PTd X C κ c p) (ha : PX X C κ R (PE X a) fa) (hb : PX X C κ R (PE X b) fb) : PX X C κ R (PE X (.IfExp c a b pos)) (vIf p fa fb) := by
  obtain ⟨t, h1, h2⟩ := hc.ex
  obtain ⟨ta, k1, k2⟩ := ha.ex
  obtain ⟨tb, l1, l2⟩ := hb.ex
  exact ⟨_, pe_ifExp h1 k1 l1, fun H0 F H ρ σ s Q hs he hp => h2 H0 F H ρ σ s _ hs he (hp.fst og fun x d s' F1 H1 st ss r hp1 => by
    cases r
    cases x with
    | true => exact k2 H0 F1 H1 ρ σ s' Q ss (he.step st) hp1
    | false => exact l2 H0 F1 H1 ρ σ s' Q ss (he.step st) hp1)⟩
/-! ### displays -/
def mTup (g : Sl → DM (List PyData)) : Sl → DM PyData := fun ρ => g ρ >>= fun ds => if ds.length ≤ sizeLine then pure (.tuple ds) else DM.fail
def mLst (g : Sl → DM (List PyData)) : Sl → DM PyData := fun ρ => g ρ >>= fun ds => if ds.length ≤ sizeLine then pure (.list ds) else DM.fail
theorem pd_tup {x1} {g : Sl → DM (List PyData)} (h : PAd X C κ es g) : PD X C κ (.Tuple es x1 pos) (mTup g) := by
  obtain ⟨t, h1, h2⟩ := h.ex
  refine ⟨_, pe_tup h1, fun H0 F H ρ σ s Q hs he hp => h2 H0 F H ρ σ s _ hs he (hp.fst RD.ok fun xs ds s' F1 H1 st ss r hp1 => ?_)⟩
  by_cases hz : ds.length ≤ sizeLine
  · rw [if_pos hz] at hp1
    refine ⟨by rw [RpAll.len r]; exact hz, fun p hn => ?_⟩
    have hf := ss.fnone hn
    exact hp1 _ _ _ (.frz hn hf) (ss.frz hn) (.tup (.inl (.inl upd_same)) (RpAll.mono (Stp.frz (S := C.S) (o := .tup xs) hn hf).le.rle _ _ r))
  · rw [if_neg hz] at hp1; exact hp1.elim
theorem po_lst {g : Sl → DM (List PyData)} (h : PAd X C κ es g) : PO X C κ (.List es pos) (mLst g) := by
  obtain ⟨t, h1, h2⟩ := h.ex
  refine ⟨_, pe_lst h1, fun H0 F H ρ σ s Q hs he hp => h2 H0 F H ρ σ s _ hs he (hp.fst RO.ok fun xs ds s' F1 H1 st ss r hp1 => ?_)⟩
  by_cases hz : ds.length ≤ sizeLine
  · rw [if_pos hz] at hp1
    refine ⟨by rw [RpAll.len r]; exact hz, fun p hn => ?_⟩
    refine hp1 _ _ _ (.own hn) (ss.own hn) ⟨p, rfl, ⟨.lst upd_same r, ss.fnone hn, fun ⟨q, hq, hd⟩ => ?_⟩, hn⟩
    have dr := ss.drw q hq
    rcases hd with e | e
    · rw [e, dr.hd] at hn; cases hn
    · rw [e, dr.hg] at hn; cases hn
  · rw [if_neg hz] at hp1; exact hp1.elim
end
theorem Stt.notDrw {S : Sig} {F H : Hp} {s : Drw} {p : Addr} (ss : Stt S F H s) (hn : H p = none) : ¬ isDrw S p := fun ⟨q, hq, hd⟩ => by
  have dr := ss.drw q hq
  rcases hd with e | e
  · rw [e, dr.hd] at hn; cases hn
  · rw [e, dr.hg] at hn; cases hn
/-- a new list is ours -/
theorem Stt.newL {S : Sig} {F H : Hp} {s : Drw} {p : Addr} {xs : List V} {ds : List PyData} (ss : Stt S F H s) (hn : H p = none) (r : RpAll S F xs ds) : RO S H F (upd H p (.lst xs)) (.ref p) (.list ds) :=
  ⟨p, rfl, ⟨.lst upd_same r, ss.fnone hn, ss.notDrw hn⟩, hn⟩
end DL

set_option Elab.async false
set_option autoImplicit false
set_option linter.all false
set_option maxRecDepth 100000
set_option maxHeartbeats 2000000
namespace DL
open PySem PySem.Spec PyProof.Rows L2

/-! ## concrete operators -/
def addD (a b : PyData) : DM PyData := match a, b with
  | .int i, .int j => pure (.int (i + j))
  | .str x, .str y => if x.length + y.length ≤ sizeLine then pure (.str (x ++ y)) else DM.fail
  | .tuple xs, .tuple ys => if xs.length + ys.length ≤ sizeLine then pure (.tuple (xs ++ ys)) else DM.fail
  | _, _ => DM.fail
def addL (a b : PyData) : DM PyData := match a, b with
  | .list xs, .list ys => if xs.length + ys.length ≤ sizeLine then pure (.list (xs ++ ys)) else DM.fail
  | _, _ => DM.fail
def subD (a b : PyData) : DM PyData := match a, b with
  | .int i, .int j => pure (.int (i - j))
  | _, _ => DM.fail
def mulD (a b : PyData) : DM PyData := match a, b with
  | .int i, .int j => if i.natAbs < 18446744073709551616 ∨ j.natAbs < 18446744073709551616 then pure (.int (i * j)) else DM.fail
  | _, _ => DM.fail
def modD (a b : PyData) : DM PyData := match a, b with
  | .int i, .int j => if j ≠ 0 then pure (.int (i.fmod j)) else DM.fail
  | _, _ => DM.fail
def fdivD (a b : PyData) : DM PyData := match a, b with
  | .int i, .int j => if 0 < j ∧ j < 1073741824 then pure (.int (i / j)) else DM.fail
  | _, _ => DM.fail
def repL (a b : PyData) : DM PyData := match a, b with
  | .list xs, .int k => if -(2 ^ 63) ≤ k ∧ k < 2 ^ 63 ∧ xs.length * k.toNat ≤ sizeLine then pure (.list (List.replicate k.toNat xs).flatten) else DM.fail
  | _, _ => DM.fail
def cmpD (p : Int → Int → Bool) (q : List Nat → List Nat → Bool) (a b : PyData) : DM PyData := match a, b with
  | .int i, .int j => pure (.bool (p i j))
  | .str x, .str y => pure (.bool (q x.cps.toList y.cps.toList))
  | _, _ => DM.fail
abbrev ltD := cmpD (fun i j => decide (i < j)) (fun x y => decide (x < y))
abbrev leD := cmpD (fun i j => decide (i ≤ j)) (fun x y => !decide (y < x))
abbrev gtD := cmpD (fun i j => decide (j < i)) (fun x y => decide (y < x))
abbrev geD := cmpD (fun i j => decide (j ≤ i)) (fun x y => !decide (x < y))
def eqD (a b : PyData) : DM PyData := if a.plain = true ∧ b.plain = true ∧ min a.depth b.depth ≤ 64 then pure (.bool (PyData.eqv a b)) else DM.fail
def neD (a b : PyData) : DM PyData := if a.plain = true ∧ b.plain = true ∧ min a.depth b.depth ≤ 64 then pure (.bool (!PyData.eqv a b)) else DM.fail
def isND (a b : PyData) : DM PyData := match b with
  | .none => match a with
    | .none => pure (.bool true)
    | .dict _ => DM.fail
    | _ => pure (.bool false)
  | _ => DM.fail
def notND (a b : PyData) : DM PyData := match b with
  | .none => match a with
    | .none => pure (.bool false)
    | .dict _ => DM.fail
    | _ => pure (.bool true)
  | _ => DM.fail

theorem RB.int {S : Sig} {F H Hs : Hp} {v : V} {i : Int} (r : RB S Hs F H v (.int i)) : v = .int i := by
  rcases r with r | ⟨a, e, o⟩
  · cases r; rfl
  · cases o.c
theorem RB.str {S : Sig} {F H Hs : Hp} {v : V} {i : Str} (r : RB S Hs F H v (.str i)) : v = .str i := by
  rcases r with r | ⟨a, e, o⟩
  · cases r; rfl
  · cases o.c
theorem RB.bool {S : Sig} {F H Hs : Hp} {v : V} {i : Bool} (r : RB S Hs F H v (.bool i)) : v = .bl i := by
  rcases r with r | ⟨a, e, o⟩
  · cases r; rfl
  · cases o.c
theorem RB.none {S : Sig} {F H Hs : Hp} {v : V} (r : RB S Hs F H v .none) : v = .non := by
  rcases r with r | ⟨a, e, o⟩
  · cases r; rfl
  · cases o.c
section
variable {S : Sig} {F H : Hp}
mutual
theorem Rp.dp (hl : hle F H) : ∀ (d : PyData) (v : V), d.plain = true → Rp S F v d → Dp S.K H v d
  | .none, _, _, r => by cases r; exact .non
  | .bool _, _, _, r => by cases r; exact .bl _
  | .int _, _, _, r => by cases r; exact .int _
  | .str _, _, _, r => by cases r; exact .str _
  | .list ds, _, p, r => by
    cases r with
    | lst h1 h2 => exact .lst (sqE_mono hl.rle h1).sql (RpAll.dp hl ds _ (by simpa only [PyData.plain] using p) h2)
  | .tuple ds, _, p, r => by
    cases r with
    | tup h1 h2 => exact .tup (sqT_mono hl.rle h1) (RpAll.dp hl ds _ (by simpa only [PyData.plain] using p) h2)
  | .dict _, _, p, _ => by simp [PyData.plain] at p
theorem RpAll.dp (hl : hle F H) : ∀ (ds : List PyData) (vs : List V), PyData.plainAll ds = true → RpAll S F vs ds → DpAll S.K H vs ds
  | [], _, _, r => by cases r; exact .nil
  | d :: ds, _, p, r => by
    rw [PyData.plainAll, Bool.and_eq_true] at p
    cases r with
    | cons h1 h2 => exact .cons (Rp.dp hl d _ p.1 h1) (RpAll.dp hl ds _ p.2 h2)
end
theorem RB.dp {Hs : Hp} {v : V} {d : PyData} (hl : hle F H) (p : d.plain = true) (r : RB S Hs F H v d) : Dp S.K H v d := by
  rcases r with r | ⟨a, e, o⟩
  · exact Rp.dp hl d v p r
  · subst e
    cases o.c with
    | lst h1 h2 => exact .lst (.inl (.inl h1)) (RpAll.dp hl _ _ (by simpa only [PyData.plain] using p) h2)
    | dK h1 h2 => simp [PyData.plain] at p
    | dT h1 h2 => simp [PyData.plain] at p
end

section
variable {X : Cx} {C : Cf}
theorem opd_add (hK : X.K = C.S.K) : OpD X C (binaryOp .Add) (RD C.S) addD := by
  refine ⟨_, OpR.or op_add (OpR.or op_add_str op_catA), fun F H Hs s σ x y a b Q ss ra rb hp => ?_⟩
  rw [hK]
  cases a <;> cases b <;> first | exact hp.elim | skip
  · rw [ra.int, rb.int]
    exact .inl ⟨_, _, rfl, rfl, hp _ F H .refl ss (.int _)⟩
  · rename_i x y
    rw [ra.str, rb.str]
    have hp' : PSt C F H σ (RD C.S) ((if x.length + y.length ≤ sizeLine then (pure (.str (x ++ y)) : DM PyData) else DM.fail) s) Q := hp
    by_cases hz : x.length + y.length ≤ sizeLine
    · rw [if_pos hz] at hp'
      exact .inr (.inl ⟨_, _, rfl, rfl, hz, hp' _ F H .refl ss (.str _)⟩)
    · rw [if_neg hz] at hp'; exact hp'.elim
  · rename_i ds es
    obtain ⟨a, xs, rfl, h1, r1⟩ := ra.tuple ss.le
    obtain ⟨b, ys, rfl, h2, r2⟩ := rb.tuple ss.le
    have hp' : PSt C F H σ (RD C.S) ((if ds.length + es.length ≤ sizeLine then (pure (.tuple (ds ++ es)) : DM PyData) else DM.fail) s) Q := hp
    by_cases hz : ds.length + es.length ≤ sizeLine
    · rw [if_pos hz] at hp'
      have fa : ∀ {v : V} {d : PyData}, RB C.S Hs F H v d → (∃ ds, d = .tuple ds) → Rp C.S F v d := fun r ⟨ds, e⟩ => by
        subst e
        rcases r with r | ⟨a, e, o⟩
        · exact r
        · cases o.c
      refine .inr (.inr ⟨a, b, xs, ys, rfl, rfl, h1, h2, by rw [RpAll.len r1, RpAll.len r2]; exact hz, fun e => ?_, fun _ e => ?_, fun _ _ p hn => ?_⟩)
      · subst e
        cases r1
        exact hp' _ F H .refl ss (fa rb ⟨_, rfl⟩)
      · subst e
        cases r2
        exact hp' _ F H .refl ss (by rw [List.append_nil]; exact fa ra ⟨_, rfl⟩)
      · have st := Stp.frz (S := C.S) (o := .tup (xs ++ ys)) hn (ss.fnone hn)
        exact hp' _ _ _ st (ss.frz hn) (.tup (.inl (.inl upd_same)) (RpAll.mono st.le.rle _ _ (r1.append r2)))
    · rw [if_neg hz] at hp'; exact hp'.elim
theorem Inv.lstRd {pins : List (Addr × Obj)} {σ : Stk} {H : Hp} {s : Shared} {a : Addr} {xs : List V} (I : Inv X pins σ H s) (h : SqE X.K H a xs) : xs.length ≤ sizeLine ∧ ∃ (its : List Value) (n : Nat), Vals xs its ∧ s.heap.get? a = some { cls := .type "list", data := .seq its.toArray n } := by
  rcases h with h | ⟨its, n, h1, h2, h3⟩
  · obtain ⟨z, its, n, r, e⟩ := h.ok I.hok
    exact ⟨z, its, n, r, e⟩
  · exact ⟨by rw [h3.length]; exact h2, its, n, h3, I.kIn _ _ h1⟩
def rCatR (K : PySem.W.Frag) : R2 := fun x y H Q => ∃ a b xs ys, x = .ref a ∧ y = .ref b ∧ SqE K H a xs ∧ SqE K H b ys ∧ xs.length + ys.length ≤ sizeLine ∧ ∀ p, H p = none → Q (.ref p) (upd H p (.lst (xs ++ ys)))
theorem op_catR : OpR X (binaryOp .Add) (rCatR X.K) := by
  intro pins s σ H x y v u Q I rx ry h
  obtain ⟨l, b, xs, zs, rfl, rfl, hH, hB, hz, q⟩ := h
  cases rx
  cases ry
  obtain ⟨_, its, n, r, e⟩ := Inv.lstRd I hH
  obtain ⟨_, its2, n2, r2, e2⟩ := Inv.lstRd I hB
  have l1 := r.length
  have l2 := r2.length
  refine PySem.P.add_list e e2 ?_ (by rw [List.size_toArray, List.size_toArray]; omega)
  rw [show its.toArray ++ its2.toArray = (its ++ its2).toArray by simp]
  exact ⟨.ref _, _, I.lnew (t' := s.toks) (r.append r2) (by rw [List.length_append]; omega), rfl, q _ I.fresh⟩
theorem opd_addL (hK : X.K = C.S.K) : OpD X C (binaryOp .Add) (RO C.S) addL := by
  refine ⟨_, op_catR, fun F H Hs s σ x y a b Q ss ra rb hp => ?_⟩
  rw [hK]
  cases a <;> cases b <;> first | exact hp.elim | skip
  rename_i ds es
  obtain ⟨a, xs, rfl, h1, r1⟩ := ra.list ss.le
  obtain ⟨b, ys, rfl, h2, r2⟩ := rb.list ss.le
  have hp' : PSt C F H σ (RO C.S) ((if ds.length + es.length ≤ sizeLine then (pure (.list (ds ++ es)) : DM PyData) else DM.fail) s) Q := hp
  by_cases hz : ds.length + es.length ≤ sizeLine
  · rw [if_pos hz] at hp'
    refine ⟨a, b, xs, ys, rfl, rfl, h1, h2, by rw [RpAll.len r1, RpAll.len r2]; exact hz, fun p hn => ?_⟩
    exact hp' _ _ _ (.own hn) (ss.own hn) (ss.newL hn (r1.append r2))
  · rw [if_neg hz] at hp'; exact hp'.elim
theorem opd_sub : OpD X C (binaryOp .Sub) (RD C.S) subD := by
  refine ⟨_, op_sub, fun F H Hs s σ x y a b Q ss ra rb hp => ?_⟩
  cases a <;> cases b <;> first | exact hp.elim | skip
  rw [ra.int, rb.int]
  exact ⟨_, _, rfl, rfl, hp _ F H .refl ss (.int _)⟩
theorem opd_mul : OpD X C (binaryOp .Mult) (RD C.S) mulD := by
  refine ⟨_, op_mul, fun F H Hs s σ x y a b Q ss ra rb hp => ?_⟩
  cases a <;> cases b <;> first | exact hp.elim | skip
  rename_i i j
  have hp' : PSt C F H σ (RD C.S) ((if i.natAbs < 18446744073709551616 ∨ j.natAbs < 18446744073709551616 then (pure (.int (i * j)) : DM PyData) else DM.fail) s) Q := hp
  rw [ra.int, rb.int]
  by_cases hz : i.natAbs < 18446744073709551616 ∨ j.natAbs < 18446744073709551616
  · rw [if_pos hz] at hp'
    refine ⟨_, _, rfl, rfl, ?_, hp' _ F H .refl ss (.int _)⟩
    rcases hz with hz | hz
    · exact .inl (by constructor <;> (rw [show (2 : Int) ^ 64 = 18446744073709551616 by rfl]; omega))
    · exact .inr (by constructor <;> (rw [show (2 : Int) ^ 64 = 18446744073709551616 by rfl]; omega))
  · rw [if_neg hz] at hp'; exact hp'.elim
theorem opd_mod : OpD X C (binaryOp .Mod) (RD C.S) modD := by
  refine ⟨_, op_modN, fun F H Hs s σ x y a b Q ss ra rb hp => ?_⟩
  cases a <;> cases b <;> first | exact hp.elim | skip
  rename_i i j
  have hp' : PSt C F H σ (RD C.S) ((if j ≠ 0 then (pure (.int (i.fmod j)) : DM PyData) else DM.fail) s) Q := hp
  rw [ra.int, rb.int]
  by_cases hz : j ≠ 0
  · rw [if_pos hz] at hp'
    exact ⟨_, _, rfl, rfl, hz, hp' _ F H .refl ss (.int _)⟩
  · rw [if_neg hz] at hp'; exact hp'.elim
theorem opd_fdiv : OpD X C (binaryOp .FloorDiv) (RD C.S) fdivD := by
  refine ⟨_, op_fdiv, fun F H Hs s σ x y a b Q ss ra rb hp => ?_⟩
  cases a <;> cases b <;> first | exact hp.elim | skip
  rename_i i j
  have hp' : PSt C F H σ (RD C.S) ((if 0 < j ∧ j < 1073741824 then (pure (.int (i / j)) : DM PyData) else DM.fail) s) Q := hp
  rw [ra.int, rb.int]
  by_cases hz : 0 < j ∧ j < 1073741824
  · rw [if_pos hz] at hp'
    exact ⟨_, _, rfl, rfl, hz, hp' _ F H .refl ss (.int _)⟩
  · rw [if_neg hz] at hp'; exact hp'.elim
theorem opd_lt : OpD X C (compareOp .Lt) (RD C.S) ltD := by
  refine ⟨_, OpR.or op_lt op_lt_str, fun F H Hs s σ x y a b Q ss ra rb hp => ?_⟩
  cases a <;> cases b <;> first | exact hp.elim | skip
  · rw [ra.int, rb.int]; exact .inl ⟨_, _, rfl, rfl, hp _ F H .refl ss (.bl _)⟩
  · rw [ra.str, rb.str]; exact .inr ⟨_, _, rfl, rfl, hp _ F H .refl ss (.bl _)⟩
theorem opd_le : OpD X C (compareOp .LtE) (RD C.S) leD := by
  refine ⟨_, OpR.or op_le op_le_str, fun F H Hs s σ x y a b Q ss ra rb hp => ?_⟩
  cases a <;> cases b <;> first | exact hp.elim | skip
  · rw [ra.int, rb.int]; exact .inl ⟨_, _, rfl, rfl, hp _ F H .refl ss (.bl _)⟩
  · rw [ra.str, rb.str]; exact .inr ⟨_, _, rfl, rfl, hp _ F H .refl ss (.bl _)⟩
theorem opd_gt : OpD X C (compareOp .Gt) (RD C.S) gtD := by
  refine ⟨_, OpR.or op_gt op_gt_str, fun F H Hs s σ x y a b Q ss ra rb hp => ?_⟩
  cases a <;> cases b <;> first | exact hp.elim | skip
  · rw [ra.int, rb.int]; exact .inl ⟨_, _, rfl, rfl, hp _ F H .refl ss (.bl _)⟩
  · rw [ra.str, rb.str]; exact .inr ⟨_, _, rfl, rfl, hp _ F H .refl ss (.bl _)⟩
theorem opd_ge : OpD X C (compareOp .GtE) (RD C.S) geD := by
  refine ⟨_, OpR.or op_ge op_ge_str, fun F H Hs s σ x y a b Q ss ra rb hp => ?_⟩
  cases a <;> cases b <;> first | exact hp.elim | skip
  · rw [ra.int, rb.int]; exact .inl ⟨_, _, rfl, rfl, hp _ F H .refl ss (.bl _)⟩
  · rw [ra.str, rb.str]; exact .inr ⟨_, _, rfl, rfl, hp _ F H .refl ss (.bl _)⟩
/-! == and != of data without dicts -/
def rEqP (K : PySem.W.Frag) (neg : Bool) : R2 := fun x y H Q => ∃ d e, Dp K H x d ∧ Dp K H y e ∧ d.plain = true ∧ e.plain = true ∧ min d.depth e.depth ≤ 64 ∧ Q (.bl (if neg = true then !PyData.eqv d e else PyData.eqv d e)) H
theorem op_eqP (hu : X.A.units + 64 < cLine) : OpR X (compareOp .Eq) (rEqP X.K false) := by
  intro pins s σ H x y v u Q I rx ry h
  obtain ⟨d, e, hd, he, pd, pe, hm, q⟩ := h
  obtain ⟨as, r1⟩ := Dp.reads I d x v hd rx
  obtain ⟨bs, r2⟩ := Dp.reads I e y u he ry
  exact SeqAt.eq_plain r1 r2 pd pe (by omega) ⟨.bl _, H, I, rfl, q⟩
theorem op_neP (hu : X.A.units + 64 < cLine) : OpR X (compareOp .NotEq) (rEqP X.K true) := by
  intro pins s σ H x y v u Q I rx ry h
  obtain ⟨d, e, hd, he, pd, pe, hm, q⟩ := h
  obtain ⟨as, r1⟩ := Dp.reads I d x v hd rx
  obtain ⟨bs, r2⟩ := Dp.reads I e y u he ry
  exact SeqAt.ne_plain r1 r2 pd pe (by omega) ⟨.bl _, H, I, rfl, q⟩
theorem opd_eq (hK : X.K = C.S.K) (hu : X.A.units + 64 < cLine) : OpD X C (compareOp .Eq) (RD C.S) eqD := by
  refine ⟨_, op_eqP hu, fun F H Hs s σ x y a b Q ss ra rb hp => ?_⟩
  rw [hK]
  unfold eqD at hp
  split at hp
  · rename_i h
    exact ⟨a, b, ra.dp ss.le h.1, rb.dp ss.le h.2.1, h.1, h.2.1, h.2.2, hp _ F H .refl ss (.bl _)⟩
  · exact hp.elim
theorem opd_ne (hK : X.K = C.S.K) (hu : X.A.units + 64 < cLine) : OpD X C (compareOp .NotEq) (RD C.S) neD := by
  refine ⟨_, op_neP hu, fun F H Hs s σ x y a b Q ss ra rb hp => ?_⟩
  rw [hK]
  unfold neD at hp
  split at hp
  · rename_i h
    exact ⟨a, b, ra.dp ss.le h.1, rb.dp ss.le h.2.1, h.1, h.2.1, h.2.2, hp _ F H .refl ss (.bl _)⟩
  · exact hp.elim
/-! in, not in -/
def rInP (K : PySem.W.Frag) (neg : Bool) : R2 := fun x y H Q => ∃ d ds, Dp K H x d ∧ (Dp K H y (.list ds) ∨ Dp K H y (.tuple ds)) ∧ d.plain = true ∧ PyData.plainAll ds = true ∧ d.depth ≤ 62 ∧
  Q (.bl (if neg = true then !(ds.any fun z => PyData.eqv z d) else ds.any fun z => PyData.eqv z d)) H
theorem op_inP (hu : X.A.units + 64 < cLine) : OpR X (compareOp .In) (rInP X.K false) := by
  intro pins s σ H x y v u Q I rx ry h
  obtain ⟨d, ds, hd, he, pd, pe, hm, q⟩ := h
  obtain ⟨as, r1⟩ := Dp.reads I d x v hd rx
  have room : X.A.units + 1 + min (PyData.depthAll ds) d.depth < cLine := by omega
  rcases he with he | he
  · obtain ⟨bs, r2⟩ := Dp.reads I _ y u he ry
    exact SeqAt.in_list_data r2 r1 pe pd room ⟨.bl _, H, I, rfl, q⟩
  · obtain ⟨bs, r2⟩ := Dp.reads I _ y u he ry
    exact SeqAt.in_tuple_data r2 r1 pe pd room ⟨.bl _, H, I, rfl, q⟩
theorem op_notInP (hu : X.A.units + 64 < cLine) : OpR X (compareOp .NotIn) (rInP X.K true) := by
  intro pins s σ H x y v u Q I rx ry h
  obtain ⟨d, ds, hd, he, pd, pe, hm, q⟩ := h
  obtain ⟨as, r1⟩ := Dp.reads I d x v hd rx
  have room : X.A.units + 1 + min (PyData.depthAll ds) d.depth < cLine := by omega
  rcases he with he | he
  · obtain ⟨bs, r2⟩ := Dp.reads I _ y u he ry
    exact SeqAt.notIn_list_data r2 r1 pe pd room ⟨.bl _, H, I, rfl, q⟩
  · obtain ⟨bs, r2⟩ := Dp.reads I _ y u he ry
    exact SeqAt.notIn_tuple_data r2 r1 pe pd room ⟨.bl _, H, I, rfl, q⟩
/-- d's kinds of what may be asked with in -/
def inB (a b : PyData) : Option Bool := match b with
  | .list ds => if a.plain = true ∧ PyData.plainAll ds = true ∧ a.depth ≤ 62 then some (ds.any fun z => PyData.eqv z a) else none
  | .tuple ds => if a.plain = true ∧ PyData.plainAll ds = true ∧ a.depth ≤ 62 then some (ds.any fun z => PyData.eqv z a) else none
  | .str z => match a with
    | .str x => match x.cps.toList with
      | [c] => some (decide (c ∈ z.cps.toList))
      | _ => some (!(Builtin.Str.occurrences z x 0 z.length 1).isEmpty)
    | _ => none
  | _ => none
def inD (a b : PyData) : DM PyData := DM.opt (inB a b) >>= fun k => pure (.bool k)
def notInD (a b : PyData) : DM PyData := DM.opt (inB a b) >>= fun k => pure (.bool (!k))
theorem RB.items {S : Sig} {F H Hs : Hp} {v : V} {ds : List PyData} (hl : hle F H) (p : PyData.plainAll ds = true) (r : RB S Hs F H v (.list ds) ∨ RB S Hs F H v (.tuple ds)) : Dp S.K H v (.list ds) ∨ Dp S.K H v (.tuple ds) := by
  rcases r with r | r
  · exact .inl (r.dp hl (by simpa only [PyData.plain] using p))
  · exact .inr (r.dp hl (by simpa only [PyData.plain] using p))
theorem opt_post {γ δ α : Type} {F H : Hp} {σ : Stk} {R : Rel γ δ} {o : Option α} {g : α → DM δ} {s : Drw} {Q : γ → Hp → Prop} (hp : Post C.S F H C.W σ C.er R ((DM.opt o >>= g) s) Q) : ∃ k, o = some k ∧ Post C.S F H C.W σ C.er R (g k s) Q := by
  cases o with
  | none => exact hp.elim
  | some k => exact ⟨k, rfl, hp⟩
theorem one_sign {x : Str} {c : Nat} (h : x.cps.toList = [c]) : x = ⟨#[c]⟩ := by
  obtain ⟨a⟩ := x
  have : a = [c].toArray := by rw [← h]
  subst this; rfl
theorem opd_in (hK : X.K = C.S.K) (hu : X.A.units + 64 < cLine) : OpD X C (compareOp .In) (RD C.S) inD := by
  refine ⟨_, OpR.or (op_inP hu) (OpR.or op_in_sign op_in_str), fun F H Hs s σ x y a b Q ss ra rb hp => ?_⟩
  rw [hK]
  obtain ⟨k, hk, hp2⟩ := opt_post (show Post C.S F H C.W σ C.er (RD C.S) ((DM.opt (inB a b) >>= fun k => (pure (.bool k) : DM PyData)) s) Q from hp)
  have fin := hp2 (.bl k) F H .refl ss (.bl k)
  unfold inB at hk
  cases b with
  | list ds =>
    simp only [Option.ite_none_right_eq_some, Option.some.injEq] at hk
    obtain ⟨⟨h1, h2, h3⟩, rfl⟩ := hk
    exact .inl ⟨a, ds, ra.dp ss.le h1, RB.items ss.le h2 (.inl rb), h1, h2, h3, fin⟩
  | tuple ds =>
    simp only [Option.ite_none_right_eq_some, Option.some.injEq] at hk
    obtain ⟨⟨h1, h2, h3⟩, rfl⟩ := hk
    exact .inl ⟨a, ds, ra.dp ss.le h1, RB.items ss.le h2 (.inr rb), h1, h2, h3, fin⟩
  | str z =>
    cases a with
    | str w =>
      rw [ra.str, rb.str]
      simp only at hk
      split at hk
      · rename_i c hc
        cases hk
        exact .inr (.inl ⟨c, z, by rw [one_sign hc], rfl, fin⟩)
      · cases hk
        exact .inr (.inr ⟨_, _, rfl, rfl, fin⟩)
    | _ => cases hk
  | _ => cases hk
theorem opd_notIn (hK : X.K = C.S.K) (hu : X.A.units + 64 < cLine) : OpD X C (compareOp .NotIn) (RD C.S) notInD := by
  refine ⟨_, OpR.or (op_notInP hu) (OpR.or op_notIn_sign op_notIn_str), fun F H Hs s σ x y a b Q ss ra rb hp => ?_⟩
  rw [hK]
  obtain ⟨k, hk, hp2⟩ := opt_post (show Post C.S F H C.W σ C.er (RD C.S) ((DM.opt (inB a b) >>= fun k => (pure (.bool (!k)) : DM PyData)) s) Q from hp)
  have fin := hp2 (.bl (!k)) F H .refl ss (.bl (!k))
  unfold inB at hk
  cases b with
  | list ds =>
    simp only [Option.ite_none_right_eq_some, Option.some.injEq] at hk
    obtain ⟨⟨h1, h2, h3⟩, rfl⟩ := hk
    exact .inl ⟨a, ds, ra.dp ss.le h1, RB.items ss.le h2 (.inl rb), h1, h2, h3, fin⟩
  | tuple ds =>
    simp only [Option.ite_none_right_eq_some, Option.some.injEq] at hk
    obtain ⟨⟨h1, h2, h3⟩, rfl⟩ := hk
    exact .inl ⟨a, ds, ra.dp ss.le h1, RB.items ss.le h2 (.inr rb), h1, h2, h3, fin⟩
  | str z =>
    cases a with
    | str w =>
      rw [ra.str, rb.str]
      simp only at hk
      split at hk
      · rename_i c hc
        cases hk
        exact .inr (.inl ⟨c, z, by rw [one_sign hc], rfl, fin⟩)
      · cases hk
        exact .inr (.inr ⟨_, _, rfl, rfl, by simpa using fin⟩)
    | _ => cases hk
  | _ => cases hk
end
end DL

set_option Elab.async false
set_option autoImplicit false
set_option linter.all false
set_option maxRecDepth 100000
set_option maxHeartbeats 2000000
namespace DL
open PySem PySem.Spec PyProof.Rows L2

/-! ## statements -/
inductive Fl where
  | nx (ρ : Sl)
  | ret (d : PyData)
  | brk (ρ : Sl)
  | ct (ρ : Sl)

/-- kinds of the slots behind: next, break, continue -/
structure SPost (C : Cf) (R : Rel V PyData) (κ' : List Bool) (F0 H0 : Hp) (o : Out Fl) (D : Ends) : Prop where
  nx : ∀ ρ s', o = .ok (.nx ρ) s' → ∀ σ' F' H', Stt C.S F' H' s' → Stp C.S F0 H0 F' H' → EnvR C.S H0 F' H' κ' ρ σ' → D.nx σ' H'
  rt : ∀ d s', o = .ok (.ret d) s' → ∀ v F' H', Stt C.S F' H' s' → Stp C.S F0 H0 F' H' → R H0 F' H' v d → D.rt v H'
  bk : ∀ ρ s', o = .ok (.brk ρ) s' → ∀ σ' F' H', Stt C.S F' H' s' → Stp C.S F0 H0 F' H' → EnvR C.S H0 F' H' κ' ρ σ' → D.bk σ' H'
  ct : ∀ ρ s', o = .ok (.ct ρ) s' → ∀ σ' F' H', Stt C.S F' H' s' → Stp C.S F0 H0 F' H' → EnvR C.S H0 F' H' κ' ρ σ' → D.ct σ' H'
  exc : ∀ e s', o = .exc e s' → ∀ σ cls dx F' H', Stt C.S F' H' s' → Stp C.S F0 H0 F' H' → C.er F' e cls dx → C.W cls dx σ H'
  ok : o ≠ .bad
def SSat (C : Cf) (R : Rel V PyData) (κ κ' : List Bool) (t : TS) (g : Sl → DM Fl) : Prop :=
  ∀ (F0 H0 F H : Hp) (ρ : Sl) (σ : Stk) (s : Drw) (D : Ends), Stt C.S F H s → Stp C.S F0 H0 F H → EnvR C.S H0 F H κ ρ σ → SPost C R κ' F0 H0 (g ρ s) D → t D σ H
structure PXs (C : Cf) (R : Rel V PyData) (κ κ' : List Bool) (J : TS → Prop) (g : Sl → DM Fl) : Prop where
  ex : ∃ t, J t ∧ SSat C R κ κ' t g
abbrev PSd (X : Cx) (C : Cf) (R : Rel V PyData) (κ κ' : List Bool) (st : Stmt) (g : Sl → DM Fl) : Prop := PXs C R κ κ' (PS X st) g
abbrev PSsd (X : Cx) (C : Cf) (R : Rel V PyData) (κ κ' : List Bool) (st : List Stmt) (g : Sl → DM Fl) : Prop := PXs C R κ κ' (PSs X st) g

section
variable {X : Cx} {C : Cf} {R : Rel V PyData} {κ κ1 κ' : List Bool} {e : Expr} {st : Stmt} {rest : List Stmt} {pos : Pos} {f : Sl → DM PyData} {g h : Sl → DM Fl}
/-- an expression, then the statement's end -/
theorem SPost.expr {β α : Type} {Ra : Rel β α} {F0 H0 F H : Hp} {s : Drw} {σ : Stk} {D : Ends} {x : DM α} {k : α → DM Fl} {Q : β → Hp → Prop} (hp : SPost C R κ' F0 H0 ((x >>= k) s) D) (st : Stp C.S F0 H0 F H)
    (h : ∀ v d s' F' H', Stp C.S F H F' H' → Stt C.S F' H' s' → Ra H F' H' v d → SPost C R κ' F0 H0 (k d s') D → Q v H') : Post C.S F H C.W σ C.er Ra (x s) Q := by
  have hp' : SPost C R κ' F0 H0 (DM.bnd x k s) D := hp
  unfold DM.bnd at hp'
  cases e : x s with
  | bad => rw [e] at hp'; exact hp'.ok rfl
  | exc y s' =>
    rw [e] at hp'
    exact fun cls dx F' H' a b c => hp'.exc y s' rfl σ cls dx F' H' b (st.trans a) c
  | ok d s' =>
    rw [e] at hp'
    exact fun v F' H' a b c => h v d s' F' H' a b c hp'
/-- one statement behind another -/
def seqF (g h : Sl → DM Fl) : Sl → DM Fl := fun ρ => g ρ >>= fun r => match r with
  | .nx ρ' => h ρ'
  | r => pure r
theorem pssd_nil : PSsd X C R κ κ [] (fun ρ => pure (.nx ρ)) := ⟨_, pss_nil, fun F0 H0 F H ρ σ s D hs st he hp => hp.nx ρ s rfl σ F H hs st he⟩
theorem seq_sat {t u : TS} (h1 : SSat C R κ κ1 t g) (h2 : SSat C R κ1 κ' u h) (hκ : ∀ ρ s, (∀ ρ' s', g ρ s ≠ .ok (.brk ρ') s') ∧ (∀ ρ' s', g ρ s ≠ .ok (.ct ρ') s') ∨ κ1 = κ') : SSat C R κ κ' (tSeq t u) (seqF g h) := by
  intro F0 H0 F H ρ σ s D hs st he hp
  refine h1 F0 H0 F H ρ σ s _ hs st he ?_
  have hp' : SPost C R κ' F0 H0 (DM.bnd (g ρ) (fun r => match r with | .nx ρ' => h ρ' | r => pure r) s) D := hp
  unfold DM.bnd at hp'
  have hk := hκ ρ s
  cases e : g ρ s with
  | bad => rw [e] at hp'; exact (hp'.ok rfl).elim
  | exc y s' =>
    rw [e] at hp'
    exact ⟨(fun _ _ z => nomatch z), (fun _ _ z => nomatch z), (fun _ _ z => nomatch z), (fun _ _ z => nomatch z), fun e s' h => hp'.exc e s' h, (fun z => nomatch z)⟩
  | ok r s' =>
    rw [e] at hp'
    cases r with
    | nx ρ' =>
      refine ⟨fun ρ2 s2 q σ' F' H' a b c => ?_, (fun _ _ z => nomatch z), (fun _ _ z => nomatch z), (fun _ _ z => nomatch z), (fun _ _ z => nomatch z), (fun z => nomatch z)⟩
      cases q
      exact h2 F0 H0 F' H' ρ' σ' s' D a b c hp'
    | ret d => exact ⟨(fun _ _ z => nomatch z), fun d s' q => hp'.rt d s' q, (fun _ _ z => nomatch z), (fun _ _ z => nomatch z), (fun _ _ z => nomatch z), (fun z => nomatch z)⟩
    | brk ρ' =>
      refine ⟨(fun _ _ z => nomatch z), (fun _ _ z => nomatch z), fun ρ2 s2 q => ?_, (fun _ _ z => nomatch z), (fun _ _ z => nomatch z), (fun z => nomatch z)⟩
      rcases hk with hk | hk
      · exact absurd e (hk.1 _ _)
      · subst hk; exact hp'.bk ρ2 s2 q
    | ct ρ' =>
      refine ⟨(fun _ _ z => nomatch z), (fun _ _ z => nomatch z), (fun _ _ z => nomatch z), fun ρ2 s2 q => ?_, (fun _ _ z => nomatch z), (fun z => nomatch z)⟩
      rcases hk with hk | hk
      · exact absurd e (hk.2 _ _)
      · subst hk; exact hp'.ct ρ2 s2 q
/-- a block: the kinds as they are -/
theorem pssd_cons (h1 : PSd X C R κ κ st g) (h2 : PSsd X C R κ κ rest h) : PSsd X C R κ κ (st :: rest) (seqF g h) :=
  let ⟨_, a, b⟩ := h1.ex; let ⟨_, c, d⟩ := h2.ex; ⟨_, pss_cons a c, seq_sat b d fun _ _ => .inr rfl⟩
theorem pssd_one (h1 : PSd X C R κ κ' st g) : PSsd X C R κ κ' [st] g := let ⟨_, a, b⟩ := h1.ex; ⟨_, pss_one a, b⟩
/-- return e -/
def retF (f : Sl → DM PyData) : Sl → DM Fl := fun ρ => f ρ >>= fun d => pure (.ret d)
theorem psd_ret (og : Rel.Ok C.S R) (h : PX X C κ R (PE X e) f) : PSd X C R κ κ' (.Return (some e) pos) (retF f) := by
  obtain ⟨t, h1, h2⟩ := h.ex
  exact ⟨_, ps_ret h1, fun F0 H0 F H ρ σ s D hs st he hp => h2 H0 F H ρ σ s _ hs he (hp.expr st fun v d s' F1 H1 st1 ss r hp1 =>
    hp1.rt d s' rfl v F1 H1 ss (st.trans st1) (og.back st.there r))⟩
theorem psd_retN : PSd X C (RD C.S) κ κ' (.Return none pos) (fun _ => pure (.ret .none)) :=
  ⟨_, ps_retN, fun F0 H0 F H ρ σ s D hs st he hp => hp.rt .none s rfl .non F H hs st .non⟩
/-- return x, x a container of ours -/
theorem psd_retOwn (i : Nat) (h : PE X e (tVar i)) (hk : κ[i]? = some true) : PSd X C (RO C.S) κ κ' (.Return (some e) pos) (retF (sGet i)) := by
  refine ⟨_, ps_ret h, fun F0 H0 F H ρ σ s D hs st he hp => ?_⟩
  have hp' : SPost C (RO C.S) κ' F0 H0 (DM.bnd (sGet i ρ) (fun d => pure (.ret d)) s) D := hp
  unfold DM.bnd at hp'
  rcases sGet_cases (i := i) (ρ := ρ) s with ⟨d, hd, e⟩ | e
  · rw [e] at hp'
    obtain ⟨a, h1, h2, h3⟩ := he.own i d hk hd
    exact ⟨_, h1, hp'.rt d s rfl _ F H hs st ⟨a, rfl, h2, h3⟩⟩
  · rw [e] at hp'; exact (hp'.ok rfl).elim
/-- the slot i holds data from now on -/
theorem EnvR.setD {S : Sig} {H0 F H : Hp} {κ : List Bool} {ρ : Sl} {σ : Stk} {i : Nat} {d : PyData} {v : V} (he : EnvR S H0 F H κ ρ σ) (hk : κ[i]? ≠ some true) (r : Rp S F v d) : EnvR S H0 F H κ (ρ.set i (some d)) (σ.set i (some v)) where
  len := by simp [he.len]
  dat := fun j e hj h => by
    by_cases hij : i = j
    · subst hij
      by_cases hi : i < ρ.length
      · rw [List.getElem?_set_self hi] at h; cases h
        exact ⟨v, List.getElem?_set_self (by rw [← he.len]; exact hi), r⟩
      · rw [List.getElem?_eq_none (by simpa using hi)] at h; cases h
    · rw [List.getElem?_set_ne hij] at h ⊢
      exact he.dat j e hj h
  own := fun j e hj h => by
    have hij : i ≠ j := fun z => by subst z; exact hk hj
    rw [List.getElem?_set_ne hij] at h ⊢
    exact he.own j e hj h
  apart := fun j l a d e hj hl h1 h2 h3 h4 => by
    have n1 : i ≠ j := fun z => by subst z; exact hk hj
    have n2 : i ≠ l := fun z => by subst z; exact hk hl
    rw [List.getElem?_set_ne n1] at h1 h3
    rw [List.getElem?_set_ne n2] at h2 h4
    exact he.apart j l a d e hj hl h1 h2 h3 h4
/-- .. a new container of ours -/
theorem EnvR.setO {S : Sig} {H0 F H Hs : Hp} {κ : List Bool} {ρ : Sl} {σ : Stk} {i : Nat} {d : PyData} {a : Addr} (he : EnvR S H0 F H κ ρ σ) (o : Own S F H a d) (h0 : H0 a = none)
    (hn : ∀ j e b, κ[j]? = some true → ρ[j]? = some (some e) → σ[j]? = some (some (.ref b)) → j ≠ i → b ≠ a) (hk : κ[i]? = some true) : EnvR S H0 F H κ (ρ.set i (some d)) (σ.set i (some (.ref a))) where
  len := by simp [he.len]
  dat := fun j e hj h => by
    have hij : i ≠ j := fun z => by subst z; exact hj hk
    rw [List.getElem?_set_ne hij] at h ⊢
    exact he.dat j e hj h
  own := fun j e hj h => by
    by_cases hij : i = j
    · subst hij
      by_cases hi : i < ρ.length
      · rw [List.getElem?_set_self hi] at h; cases h
        exact ⟨a, List.getElem?_set_self (by rw [← he.len]; exact hi), o, h0⟩
      · rw [List.getElem?_eq_none (by simpa using hi)] at h; cases h
    · rw [List.getElem?_set_ne hij] at h ⊢
      exact he.own j e hj h
  apart := fun j l b d1 e hj hl h1 h2 h3 h4 => by
    by_cases n1 : i = j
    · by_cases n2 : i = l
      · omega
      · subst n1
        rw [List.getElem?_set_ne n2] at h2 h4
        have hi : i < σ.length := by
          by_cases hi : i < σ.length
          · exact hi
          · rw [List.getElem?_eq_none (by simpa using hi)] at h3; cases h3
        rw [List.getElem?_set_self hi] at h3
        cases h3
        exact absurd rfl (hn l e a hl h2 h4 (Ne.symm n2))
    · by_cases n2 : i = l
      · subst n2
        rw [List.getElem?_set_ne n1] at h1 h3
        have hi : i < σ.length := by
          by_cases hi : i < σ.length
          · exact hi
          · rw [List.getElem?_eq_none (by simpa using hi)] at h4; cases h4
        rw [List.getElem?_set_self hi] at h4
        cases h4
        exact absurd rfl (hn j d1 a hj h1 h3 (Ne.symm n1))
      · rw [List.getElem?_set_ne n1] at h1 h3
        rw [List.getElem?_set_ne n2] at h2 h4
        exact he.apart j l b d1 e hj hl h1 h2 h3 h4
/-! ### targets -/
/-- storing d by a target -/
structure PGd (X : Cx) (C : Cf) (κ : List Bool) (tg : Expr) (tch : List Nat) (h : PyData → Sl → Option Sl) : Prop where
  ex : ∃ t : TG, PG X tg t ∧ ∀ (F H H0 : Hp) (ρ ρ' : Sl) (σ : Stk) (s : Drw) (v : V) (d : PyData) (Q : Stk → Hp → Prop), Stt C.S F H s → EnvR C.S H0 F H κ ρ σ → Rp C.S F v d → h d ρ = some ρ' →
    (∀ σ', EnvR C.S H0 F H κ ρ' σ' → σ'.length = σ.length → (∀ i, i ∉ tch → σ'[i]? = σ[i]?) → Q σ' H) → t v σ H Q
def gSetD (i : Nat) : PyData → Sl → Option Sl := fun d ρ => some (ρ.set i (some d))
theorem pgd_name (i : Nat) {tg : Expr} (h : PG X tg (gName i)) (hk : κ[i]? ≠ some true) : PGd X C κ tg [i] (gSetD i) := ⟨_, h, fun F H H0 ρ ρ' σ s v d Q ss he r e k => by
  cases e
  refine k _ (he.setD hk r) (by simp) fun j hj => ?_
  rw [List.getElem?_set_ne]
  intro z; subst z; exact hj (by simp)⟩
/-- several targets in a row -/
structure PGsd (X : Cx) (C : Cf) (κ : List Bool) (ts : List Expr) (tch : List Nat) (h : List PyData → Sl → Option Sl) : Prop where
  ex : ∃ t : TGs, PGs X ts t ∧ ∀ (F H H0 : Hp) (ρ ρ' : Sl) (σ : Stk) (s : Drw) (vs : List V) (ds : List PyData) (Q : Stk → Hp → Prop), Stt C.S F H s → EnvR C.S H0 F H κ ρ σ → RpAll C.S F vs ds → h ds ρ = some ρ' →
    (∀ σ', EnvR C.S H0 F H κ ρ' σ' → σ'.length = σ.length → (∀ i, i ∉ tch → σ'[i]? = σ[i]?) → Q σ' H) → t vs σ H Q
def gsNil : List PyData → Sl → Option Sl := fun ds ρ => match ds with
  | [] => some ρ
  | _ => none
def gsCons (a : PyData → Sl → Option Sl) (b : List PyData → Sl → Option Sl) : List PyData → Sl → Option Sl := fun ds ρ => match ds with
  | d :: ds => (a d ρ).bind (b ds)
  | _ => none
def gTupD (n : Nat) (b : List PyData → Sl → Option Sl) : PyData → Sl → Option Sl := fun d ρ => match d with
  | .tuple ds => if ds.length = n then b ds ρ else none
  | _ => none
theorem pgsd_nil : PGsd X C κ [] [] gsNil := ⟨_, pgs_nil, fun F H H0 ρ ρ' σ s vs ds Q ss he r e k => by
  cases ds with
  | nil => cases r; cases e; exact ⟨rfl, k σ he rfl fun _ _ => rfl⟩
  | cons _ _ => cases e⟩
theorem pgsd_cons {tg : Expr} {ts : List Expr} {u w : List Nat} {a : PyData → Sl → Option Sl} {b : List PyData → Sl → Option Sl} (h1 : PGd X C κ tg u a) (h2 : PGsd X C κ ts w b)
    (hs : (assignEach (tg :: ts) X.env).map (·.2) = assign tg X.env :: (assignEach ts X.env).map (·.2) := by rfl) : PGsd X C κ (tg :: ts) (u ++ w) (gsCons a b) := by
  obtain ⟨t1, a1, a2⟩ := h1.ex
  obtain ⟨t2, b1, b2⟩ := h2.ex
  refine ⟨_, pgs_cons a1 b1 hs, fun F H H0 ρ ρ' σ s vs ds Q ss he r e k => ?_⟩
  cases ds with
  | nil => cases e
  | cons d ds =>
    cases r with
    | cons r rs =>
      have e' : (a d ρ).bind (b ds) = some ρ' := e
      cases ea : a d ρ with
      | none => rw [ea] at e'; cases e'
      | some ρ1 =>
        rw [ea] at e'
        exact ⟨_, _, rfl, a2 F H H0 ρ ρ1 σ s _ d _ ss he r ea fun σ1 he1 hl1 hn1 => b2 F H H0 ρ1 ρ' σ1 s _ ds Q ss he1 rs e' fun σ2 he2 hl2 hn2 =>
          k σ2 he2 (hl2.trans hl1) fun i hi => (hn2 i fun z => hi (List.mem_append_right _ z)).trans (hn1 i fun z => hi (List.mem_append_left _ z))⟩
theorem pgd_tup {ts : List Expr} {kk : Nat} {u : List Nat} {b : List PyData → Sl → Option Sl} {n : Nat} (hK : X.K = C.S.K) (hc : X.calm = true) (h : PGsd X C κ ts u b) (hn : (assignEach ts X.env).length = n := by rfl) (hst : (assignEach ts X.env).findIdx? (·.1) = none := by rfl) :
    PGd X C κ (.Tuple ts kk pos) u (gTupD n b) := by
  obtain ⟨t, h1, h2⟩ := h.ex
  refine ⟨_, pg_tup hc h1 hn hst, fun F H H0 ρ ρ' σ s v d Q ss he r e k => ?_⟩
  cases d <;> first | cases e | skip
  rename_i ds
  have e' : (if ds.length = n then b ds ρ else none) = some ρ' := e
  by_cases hl : ds.length = n
  · rw [if_pos hl] at e'
    cases r with
    | tup hq ha => exact ⟨_, _, rfl, by rw [hK]; exact sqT_mono ss.le.rle hq, by rw [RpAll.len ha]; exact hl, h2 F H H0 ρ ρ' σ s _ ds Q ss he ha e' k⟩
  · rw [if_neg hl] at e'; cases e'
/-- target = e, data -/
def asgF (f : Sl → DM PyData) (h : PyData → Sl → Option Sl) : Sl → DM Fl := fun ρ => f ρ >>= fun d => DM.opt (h d ρ) >>= fun ρ' => pure (.nx ρ')
theorem SPost.opt {F0 H0 : Hp} {α : Type} {o : Option α} {k : α → DM Fl} {s : Drw} {D : Ends} (hp : SPost C R κ' F0 H0 ((DM.opt o >>= k) s) D) : ∃ x, o = some x ∧ SPost C R κ' F0 H0 (k x s) D := by
  cases o with
  | none => exact (hp.ok rfl).elim
  | some x => exact ⟨x, rfl, hp⟩
theorem asg_sat {t : TE} {g : TG} {h : PyData → Sl → Option Sl} {tch : List Nat} (h1 : Sat C κ t (RD C.S) f)
    (h2 : ∀ (F H H0 : Hp) (ρ ρ' : Sl) (σ : Stk) (s : Drw) (v : V) (d : PyData) (Q : Stk → Hp → Prop), Stt C.S F H s → EnvR C.S H0 F H κ ρ σ → Rp C.S F v d → h d ρ = some ρ' →
      (∀ σ', EnvR C.S H0 F H κ ρ' σ' → σ'.length = σ.length → (∀ i, i ∉ tch → σ'[i]? = σ[i]?) → Q σ' H) → g v σ H Q) : SSat C R κ κ (tAsg t g) (asgF f h) := fun F0 H0 F H ρ σ s D hs st he hp =>
  h1 H0 F H ρ σ s _ hs he (hp.expr st fun v d s' F1 H1 st1 ss r hp1 => by
    obtain ⟨ρ', e, hp2⟩ := hp1.opt
    exact h2 F1 H1 H0 ρ ρ' σ s' v d _ ss (he.step st1) r e fun σ' he' _ _ => hp2.nx ρ' s' rfl σ' F1 H1 ss (st.trans st1) he')
theorem psd_set (i : Nat) {x : Str} {pos' : Pos} (hN : X.N.Nodup) (hi : X.N[i]? = some x) (hx : Loc X.env.scope x) (hk : κ[i]? ≠ some true) (h : PD X C κ e f) (hs : swapsWith e (some (.Name x pos')) pos.line X.env = pure false := by rfl)
    (hf : X.fn x = true ∨ X.env.scope.names.lookup x = some .local := by first | exact .inl rfl | exact .inr rfl | assumption) : PSd X C R κ κ (.Assign [.Name x pos'] e pos) (asgF f (gSetD i)) := by
  obtain ⟨t, h1, h2⟩ := h.ex
  have := (pgd_name (X := X) (C := C) (κ := κ) i (pg_name (pos := pos') hN hi hx hf) hk).ex
  obtain ⟨g, g1, g2⟩ := this
  refine ⟨_, ps_set hN hi hx h1 hs hf, asg_sat (tch := [i]) h2 fun F H H0 ρ ρ' σ s v d Q ss he r e k => ?_⟩
  cases e
  refine k _ (he.setD hk r) (by simp) fun j hj => ?_
  rw [List.getElem?_set_ne]
  intro z; subst z; exact hj (by simp)
/-- x = a new container of ours -/
def asgO (i : Nat) (f : Sl → DM PyData) : Sl → DM Fl := fun ρ => f ρ >>= fun d => pure (.nx (ρ.set i (some d)))
theorem psd_setO (i : Nat) {x : Str} {pos' : Pos} (hN : X.N.Nodup) (hi : X.N[i]? = some x) (hx : Loc X.env.scope x) (hk : κ[i]? = some true) (h : PO X C κ e f) (hs : swapsWith e (some (.Name x pos')) pos.line X.env = pure false := by rfl)
    (hf : X.fn x = true ∨ X.env.scope.names.lookup x = some .local := by first | exact .inl rfl | exact .inr rfl | assumption) : PSd X C R κ κ (.Assign [.Name x pos'] e pos) (asgO i f) := by
  obtain ⟨t, h1, h2⟩ := h.ex
  refine ⟨_, ps_set hN hi hx h1 hs hf, fun F0 H0 F H ρ σ s D hs st he hp => h2 H0 F H ρ σ s _ hs he (hp.expr st fun v d s' F1 H1 st1 ss r hp1 => ?_)⟩
  obtain ⟨a, rfl, o, hn⟩ := r
  have he1 := he.step st1
  refine hp1.nx _ s' rfl _ F1 H1 ss (st.trans st1) (he1.setO (Hs := H) o ?_ (fun j e b hj h1 h2 _ z => ?_) hk)
  · cases q : H0 a with
    | none => rfl
    | some u => obtain ⟨u', q'⟩ := st.there a u q; rw [hn] at q'; cases q'
  · subst z
    obtain ⟨b, hb, ob, _⟩ := he.own j e hj h1
    rw [h2] at hb; cases hb
    obtain ⟨u, hu⟩ := ob.ne
    rw [hn] at hu; cases hu
/-- e -/
def exprF (f : Sl → DM PyData) : Sl → DM Fl := fun ρ => f ρ >>= fun _ => pure (.nx ρ)
theorem psd_expr {Rr : Rel V PyData} (h : PX X C κ Rr (PE X e) f) (hs : swapsWith e none pos.line X.env = pure false := by rfl) : PSd X C R κ κ (.Expr e pos) (exprF f) := by
  obtain ⟨t, h1, h2⟩ := h.ex
  exact ⟨_, ps_expr h1 hs, fun F0 H0 F H ρ σ s D hs st he hp => h2 H0 F H ρ σ s _ hs he (hp.expr st fun v d s' F1 H1 st1 ss r hp1 => hp1.nx ρ s' rfl σ F1 H1 ss (st.trans st1) (he.step st1))⟩
theorem psd_pass : PSd X C R κ κ (.Pass pos) (fun ρ => pure (.nx ρ)) := ⟨_, ps_pass, fun F0 H0 F H ρ σ s D hs st he hp => hp.nx ρ s rfl σ F H hs st he⟩
theorem psd_break : PSd X C R κ κ (.Break pos) (fun ρ => pure (.brk ρ)) := ⟨_, ps_break, fun F0 H0 F H ρ σ s D hs st he hp => hp.bk ρ s rfl σ F H hs st he⟩
/-- if -/
def ifF (p : Sl → DM Bool) (g h : Sl → DM Fl) : Sl → DM Fl := fun ρ => p ρ >>= fun b => if b = true then g ρ else h ρ
theorem psd_if {c : Expr} {a b : List Stmt} {p : Sl → DM Bool} (hc : PTd X C κ c p) (ha : PSsd X C R κ κ' a g) (hb : PSsd X C R κ κ' b h) : PSd X C R κ κ' (.If c a b pos) (ifF p g h) := by
  obtain ⟨t, h1, h2⟩ := hc.ex
  obtain ⟨ta, k1, k2⟩ := ha.ex
  obtain ⟨tb, l1, l2⟩ := hb.ex
  exact ⟨_, ps_if h1 k1 l1, fun F0 H0 F H ρ σ s D hs st he hp => h2 H0 F H ρ σ s _ hs he (hp.expr st fun v d s' F1 H1 st1 ss r hp1 => by
    cases r
    cases v with
    | true => exact k2 F0 H0 F1 H1 ρ σ s' D ss (st.trans st1) (he.step st1) hp1
    | false => exact l2 F0 H0 F1 H1 ρ σ s' D ss (st.trans st1) (he.step st1) hp1)⟩
end
end DL

set_option Elab.async false
set_option autoImplicit false
set_option linter.all false
set_option maxRecDepth 100000
set_option maxHeartbeats 2000000
namespace DL
open PySem PySem.Spec PyProof.Rows L2

/-! ## the reading that a reckoning has by itself -/
def tCan {β α : Type} (C : Cf) (κ : List Bool) (R : Rel β α) (f : Sl → DM α) : Rdg β := fun σ H Q => ∃ (H0 F : Hp) (ρ : Sl) (s : Drw), Stt C.S F H s ∧ EnvR C.S H0 F H κ ρ σ ∧ Post C.S F H C.W σ C.er R (f ρ s) Q
theorem sat_can {β α : Type} {C : Cf} {κ : List Bool} {R : Rel β α} {f : Sl → DM α} : Sat C κ (tCan C κ R f) R f := fun H0 F H ρ σ s Q hs he hp => ⟨H0, F, ρ, s, hs, he, hp⟩
section
variable {X : Cx} {C : Cf} {κ : List Bool} {e : Expr}
theorem PX.pe {R : Rel V PyData} {f : Sl → DM PyData} (h : PX X C κ R (PE X e) f) : PE X e (tCan C κ R f) := by
  obtain ⟨t, h1, h2⟩ := h.ex
  exact ⟨fun pins s σ H Q I ⟨H0, F, ρ, s0, hs, he, hp⟩ => h1.run pins s σ H Q I (h2 H0 F H ρ σ s0 Q hs he hp)⟩
theorem PX.pts {ifs : List Expr} {f : Sl → DM Bool} (h : PX X C κ RE (PTs X ifs) f) : PTs X ifs (tCan C κ RE f) := by
  obtain ⟨t, h1, h2⟩ := h.ex
  exact ⟨fun pins s σ H Q I ⟨H0, F, ρ, s0, hs, he, hp⟩ => h1.run pins s σ H Q I (h2 H0 F H ρ σ s0 Q hs he hp)⟩
abbrev PTsd (X : Cx) (C : Cf) (κ : List Bool) (ifs : List Expr) (f : Sl → DM Bool) : Prop := PX X C κ RE (PTs X ifs) f
theorem ptsd_nil : PTsd X C κ [] (fun _ => pure true) := ⟨_, pts_nil, fun H0 F H ρ σ s Q hs he hp => hp true F H .refl hs rfl⟩
theorem ptsd_one {p : Sl → DM Bool} (h : PTd X C κ e p) : PTsd X C κ [e] p := let ⟨_, h1, h2⟩ := h.ex; ⟨_, pts_one h1, h2⟩
/-- a target's canonical reading -/
def gCan (C : Cf) (κ : List Bool) (tch : List Nat) (h : PyData → Sl → Option Sl) : TG := fun v σ H Q => ∃ (F H0 : Hp) (ρ ρ' : Sl) (s : Drw) (d : PyData), Stt C.S F H s ∧ EnvR C.S H0 F H κ ρ σ ∧ Rp C.S F v d ∧ h d ρ = some ρ' ∧
  (∀ σ', EnvR C.S H0 F H κ ρ' σ' → σ'.length = σ.length → (∀ i, i ∉ tch → σ'[i]? = σ[i]?) → Q σ' H)
theorem PGd.pg {tg : Expr} {tch : List Nat} {h : PyData → Sl → Option Sl} (p : PGd X C κ tg tch h) : PG X tg (gCan C κ tch h) := by
  obtain ⟨t, h1, h2⟩ := p.ex
  exact ⟨fun pins s σ H v u Q I r ⟨F, H0, ρ, ρ', s0, d, a, b, c, e, k⟩ => h1.run pins s σ H v u Q I r (h2 F H H0 ρ ρ' σ s0 v d Q a b c e k)⟩
end

/-! ## what is walked -/
structure WalkD (S : Sig) (F : Hp) (J : It) (ds : List PyData) : Prop where
  len : ds.length ≤ sizeLine
  ex : ∃ (G : Hp → Prop) (Y : Nat → Hp → V → Hp → Prop), Walk J ds.length G Y ∧ (∀ H1, hle F H1 → G H1) ∧
    ∀ (i : Nat) (F1 H1 : Hp) (x : V) (H2 : Hp) (s : Drw), i < ds.length → hle F F1 → Stt S F1 H1 s → Y i H1 x H2 → ∃ F2 d, ds[i]? = some d ∧ Stp S F1 H1 F2 H2 ∧ Stt S F2 H2 s ∧ Rp S F2 x d
def RW (S : Sig) : Rel It (List PyData) := fun _ F _ J ds => WalkD S F J ds
theorem WalkD.mono {S : Sig} {F F' : Hp} {J : It} {ds : List PyData} (h : hle F F') (w : WalkD S F J ds) : WalkD S F' J ds := by
  obtain ⟨G, Y, a, b, c⟩ := w.ex
  exact ⟨w.len, G, Y, a, fun H1 k => b H1 (h.trans k), fun i F1 H1 x H2 s hi k => c i F1 H1 x H2 s hi (h.trans k)⟩
theorem RW.ok {S : Sig} : Rel.Ok S (RW S) := ⟨fun r x => WalkD.mono x.le r, fun _ r => r⟩
abbrev PId (X : Cx) (C : Cf) (κ : List Bool) (tg iter : Expr) (f : Sl → DM (List PyData)) : Prop := PX X C κ (RW C.S) (PI X tg iter) f

/-! ## for -/
def loopF (asg : PyData → Sl → Option Sl) (body : Sl → DM Fl) : List PyData → Sl → DM Fl
  | [], ρ => pure (.nx ρ)
  | d :: ds, ρ => DM.opt (asg d ρ) >>= fun ρ1 => body ρ1 >>= fun r => match r with
    | .nx ρ2 => loopF asg body ds ρ2
    | .ct ρ2 => loopF asg body ds ρ2
    | .brk ρ2 => pure (.nx ρ2)
    | .ret d => pure (.ret d)
def forF (fi : Sl → DM (List PyData)) (asg : PyData → Sl → Option Sl) (body : Sl → DM Fl) : Sl → DM Fl := fun ρ => fi ρ >>= fun ds => loopF asg body ds ρ
section
variable {X : Cx} {C : Cf} {R : Rel V PyData} {κ : List Bool} {pos : Pos}
theorem SPost.body {F0 H0 : Hp} {ρ : Sl} {body k1 : Sl → DM Fl} {s : Drw} {D : Ends} {N : Stk → Hp → Prop}
    (hp : SPost C R κ F0 H0 ((body ρ >>= fun r => match r with | .nx ρ2 => k1 ρ2 | .ct ρ2 => k1 ρ2 | .brk ρ2 => pure (.nx ρ2) | .ret d => pure (.ret d)) s) D)
    (hN : ∀ ρ2 s' σ' F' H', SPost C R κ F0 H0 (k1 ρ2 s') D → Stt C.S F' H' s' → Stp C.S F0 H0 F' H' → EnvR C.S H0 F' H' κ ρ2 σ' → N σ' H') :
    SPost C R κ F0 H0 (body ρ s) { D with nx := N, ct := N, bk := D.nx } := by
  have hp' : SPost C R κ F0 H0 (DM.bnd (body ρ) (fun r => match r with | .nx ρ2 => k1 ρ2 | .ct ρ2 => k1 ρ2 | .brk ρ2 => pure (.nx ρ2) | .ret d => pure (.ret d)) s) D := hp
  unfold DM.bnd at hp'
  cases e : body ρ s with
  | bad => rw [e] at hp'; exact (hp'.ok rfl).elim
  | exc y s' =>
    rw [e] at hp'
    exact ⟨(fun _ _ z => nomatch z), (fun _ _ z => nomatch z), (fun _ _ z => nomatch z), (fun _ _ z => nomatch z), fun e s' h => hp'.exc e s' h, (fun z => nomatch z)⟩
  | ok r s' =>
    rw [e] at hp'
    cases r with
    | nx ρ' =>
      refine ⟨fun ρ2 s2 q σ' F' H' a b c => ?_, (fun _ _ z => nomatch z), (fun _ _ z => nomatch z), (fun _ _ z => nomatch z), (fun _ _ z => nomatch z), (fun z => nomatch z)⟩
      cases q
      exact hN _ _ _ _ _ hp' a b c
    | ret d => exact ⟨(fun _ _ z => nomatch z), fun d s' q => hp'.rt d s' q, (fun _ _ z => nomatch z), (fun _ _ z => nomatch z), (fun _ _ z => nomatch z), (fun z => nomatch z)⟩
    | brk ρ' =>
      refine ⟨(fun _ _ z => nomatch z), (fun _ _ z => nomatch z), fun ρ2 s2 q σ' F' H' a b c => ?_, (fun _ _ z => nomatch z), (fun _ _ z => nomatch z), (fun z => nomatch z)⟩
      cases q
      exact hp'.nx _ _ rfl σ' F' H' a b c
    | ct ρ' =>
      refine ⟨(fun _ _ z => nomatch z), (fun _ _ z => nomatch z), (fun _ _ z => nomatch z), fun ρ2 s2 q σ' F' H' a b c => ?_, (fun _ _ z => nomatch z), (fun z => nomatch z)⟩
      cases q
      exact hN _ _ _ _ _ hp' a b c
theorem Stp.base {S : Sig} {F0 H0 F1 H1 F H : Hp} (a : Stp S F0 H0 F1 H1) (b : Stp S F1 H0 F H) : Stp S F0 H0 F H := ⟨a.le.trans b.le, fun x o h => (b.new x o h).trans (a.new x o h), b.keep, b.there⟩
theorem Stp.rebase {S : Sig} {F0 H0 F1 H1 : Hp} (a : Stp S F0 H0 F1 H1) : Stp S F1 H0 F1 H1 := ⟨hle.refl _, fun _ _ _ => rfl, a.keep, a.there⟩
theorem SPost.rebase {κ' : List Bool} {F0 H0 F1 H1 : Hp} {o : Out Fl} {D : Ends} (a : Stp C.S F0 H0 F1 H1) (h : SPost C R κ' F0 H0 o D) : SPost C R κ' F1 H0 o D :=
  ⟨fun ρ s' e σ' F' H' x y z => h.nx ρ s' e σ' F' H' x (a.base y) z, fun d s' e v F' H' x y z => h.rt d s' e v F' H' x (a.base y) z, fun ρ s' e σ' F' H' x y z => h.bk ρ s' e σ' F' H' x (a.base y) z,
    fun ρ s' e σ' F' H' x y z => h.ct ρ s' e σ' F' H' x (a.base y) z, fun e s' q σ cls dx F' H' x y z => h.exc e s' q σ cls dx F' H' x (a.base y) z, h.ok⟩
theorem psd_for {tg iter : Expr} {body : List Stmt} {fi : Sl → DM (List PyData)} {tch : List Nat} {asg : PyData → Sl → Option Sl} {fb : Sl → DM Fl} (hp : PassesOwn (model X.prog X.w) X.A X.env X.xe) (hc : X.calm = true)
    (hi : PId X C κ tg iter fi) (hg : PGd X C κ tg tch asg) (hb : PSsd X C R κ κ body fb) (hs : ∀ x, foldedSetIterable iter X.env x = pure x := by intro _; rfl) : PSd X C R κ κ (.For tg iter body [] pos) (forF fi asg fb) := by
  obtain ⟨wi, i1, i2⟩ := hi.ex
  obtain ⟨tg', g1, g2⟩ := hg.ex
  obtain ⟨tb, b1, b2⟩ := hb.ex
  refine ⟨_, ps_for hp hc i1 g1 b1 hs, fun F0 H0 F H ρ σ s D hs st he hp => i2 H0 F H ρ σ s _ hs he (hp.expr st fun J ds s1 F1 H1 st1 ss1 w hp1 => ?_)⟩
  obtain ⟨G, Y, wk, hG, hY⟩ := w.ex
  have sb := st.trans st1
  refine for_it wk (fun i σ H => ∃ (F : Hp) (ρ : Sl) (s : Drw), Stt C.S F H s ∧ Stp C.S F1 H0 F H ∧ EnvR C.S H0 F H κ ρ σ ∧ SPost C R κ F1 H0 (loopF asg fb (ds.drop i) ρ s) D) ?_ ?_ ?_ ?_
  · exact ⟨F1, ρ, s1, ss1, sb.rebase, he.step st1, hp1.rebase sb⟩
  · rintro i σ H _ ⟨F, ρ, s, ss, st, he, hp⟩
    exact hG H (st.le.trans ss.le)
  · rintro i x σ H H' hi ⟨F, ρ, s, ss, st, he, hp⟩ y
    obtain ⟨F2, d, hd, st2, ss2, r⟩ := hY i F H x H' s hi st.le ss y
    have ed : ds.drop i = d :: ds.drop (i + 1) := by
      obtain ⟨h1, h2⟩ := List.getElem?_eq_some_iff.mp hd
      rw [List.drop_eq_getElem_cons h1, h2]
    rw [ed] at hp
    obtain ⟨ρ1, ea, hp2⟩ := SPost.opt (hp : SPost C R κ F1 H0 ((DM.opt (asg d ρ) >>= fun ρ1 => fb ρ1 >>= fun r => match r with | .nx ρ2 => loopF asg fb (ds.drop (i + 1)) ρ2 | .ct ρ2 => loopF asg fb (ds.drop (i + 1)) ρ2 | .brk ρ2 => pure (.nx ρ2) | .ret d => pure (.ret d)) s) D)
    exact g2 F2 H' H0 ρ ρ1 σ s x d _ ss2 (he.step st2) r ea fun σ1 he1 _ _ => b2 F1 H0 F2 H' ρ1 σ1 s _ ss2 (st.trans st2) he1 (SPost.body hp2 fun ρ2 s' σ' F' H'' hp3 ss3 st3 he3 => ⟨F', ρ2, s', ss3, st3, he3, hp3⟩)
  · rintro σ H ⟨F, ρ, s, ss, st, he, hp⟩
    rw [List.drop_length] at hp
    exact hp.nx ρ s rfl σ F H ss st he
/-! ## while -/
def whileF (p : Sl → DM Bool) (body : Sl → DM Fl) : Nat → Sl → DM Fl
  | 0, _ => DM.fail
  | n + 1, ρ => p ρ >>= fun b => if b = true then (body ρ >>= fun r => match r with
    | .nx ρ2 => whileF p body n ρ2
    | .ct ρ2 => whileF p body n ρ2
    | .brk ρ2 => pure (.nx ρ2)
    | .ret d => pure (.ret d)) else pure (.nx ρ)
theorem psd_while (n : Nat) {c : Expr} {body : List Stmt} {p : Sl → DM Bool} {fb : Sl → DM Fl} (hp : PassesOwn (model X.prog X.w) X.A X.env X.xe) (hc : PTd X C κ c p) (hb : PSsd X C R κ κ body fb) : PSd X C R κ κ (.While c body [] pos) (whileF p fb n) := by
  obtain ⟨t, h1, h2⟩ := hc.ex
  obtain ⟨tb, b1, b2⟩ := hb.ex
  refine ⟨_, ps_while hp h1 b1, fun F0 H0 F H ρ σ s D hs st he hp => ?_⟩
  refine ⟨fun m σ H => ∃ (F : Hp) (ρ : Sl) (s : Drw), Stt C.S F H s ∧ Stp C.S F0 H0 F H ∧ EnvR C.S H0 F H κ ρ σ ∧ SPost C R κ F0 H0 (whileF p fb m ρ s) D, ⟨n, F, ρ, s, hs, st, he, hp⟩, ?_⟩
  rintro m σ H ⟨F, ρ, s, ss, st, he, hp⟩
  cases m with
  | zero => exact (hp.ok rfl).elim
  | succ m =>
    refine h2 H0 F H ρ σ s _ ss he (SPost.expr (hp : SPost C R κ F0 H0 ((p ρ >>= fun b => if b = true then (fb ρ >>= fun r => match r with | .nx ρ2 => whileF p fb m ρ2 | .ct ρ2 => whileF p fb m ρ2 | .brk ρ2 => pure (.nx ρ2) | .ret d => pure (.ret d)) else pure (.nx ρ)) s) D) st fun v d s1 F1 H1 st1 ss1 r hp1 => ?_)
    cases r
    cases v with
    | true => exact ⟨fun σ' H' => ∃ (F : Hp) (ρ : Sl) (s : Drw), Stt C.S F H' s ∧ Stp C.S F0 H0 F H' ∧ EnvR C.S H0 F H' κ ρ σ' ∧ SPost C R κ F0 H0 (whileF p fb m ρ s) D, fun σ' H' q => ⟨m, Nat.lt_succ_self m, q⟩,
        b2 F0 H0 F1 H1 ρ σ s1 _ ss1 (st.trans st1) (he.step st1) (SPost.body hp1 fun ρ2 s' σ' F' H'' hp3 ss3 st3 he3 => ⟨F', ρ2, s', ss3, st3, he3, hp3⟩)⟩
    | false => exact hp1.nx ρ s1 rfl σ F1 H1 ss1 (st.trans st1) (he.step st1)
/-! ## list comprehensions -/
def mute {α : Type} (x : DM α) : DM α := fun s => match x s with
  | .ok a s' => .ok a s'
  | _ => .bad
def wipeD (ρ : Sl) : List Nat → Sl
  | [] => ρ
  | v :: vs => (wipeD ρ vs).set v none
def lcL (asg : PyData → Sl → Option Sl) (p : Sl → DM Bool) (el : Sl → DM PyData) (ρ : Sl) : List PyData → DM (List PyData)
  | [] => pure []
  | d :: ds => DM.opt (asg d ρ) >>= fun ρ1 => p ρ1 >>= fun b => if b = true then (el ρ1 >>= fun y => lcL asg p el ρ ds >>= fun ys => pure (y :: ys)) else lcL asg p el ρ ds
def lcF (fi : Sl → DM (List PyData)) (asg : PyData → Sl → Option Sl) (p : Sl → DM Bool) (el : Sl → DM PyData) (vs : List Nat) : Sl → DM PyData := fun ρ => fi ρ >>= fun ds => mute (lcL asg p el (wipeD ρ vs) ds) >>= fun ys => pure (.list ys)
def Cf.mute (C : Cf) : Cf := { C with W := fun _ _ _ _ => False }
theorem EnvR.wipe {S : Sig} {H0 F H : Hp} {κ : List Bool} {ρ : Sl} {σ : Stk} (he : EnvR S H0 F H κ ρ σ) : ∀ vs : List Nat, EnvR S H0 F H κ (wipeD ρ vs) (L2.wipe σ vs)
  | [] => he
  | v :: vs => by
    have h := he.wipe vs
    have key : ∀ (j : Nat) (d : PyData), (wipeD ρ (v :: vs))[j]? = some (some d) → j ≠ v ∧ (wipeD ρ vs)[j]? = some (some d) := fun j d q => by
      have q' : ((wipeD ρ vs).set v none)[j]? = some (some d) := q
      by_cases e : v = j
      · subst e
        by_cases hv : v < (wipeD ρ vs).length
        · rw [List.getElem?_set_self hv] at q'; cases q'
        · rw [List.getElem?_eq_none (by simpa using hv)] at q'; cases q'
      · rw [List.getElem?_set_ne e] at q'
        exact ⟨Ne.symm e, q'⟩
    have keyV : ∀ (j : Nat), j ≠ v → (L2.wipe σ (v :: vs))[j]? = (L2.wipe σ vs)[j]? := fun j e => by
      show ((L2.wipe σ vs).set v none)[j]? = _
      rw [List.getElem?_set_ne (Ne.symm e)]
    refine ⟨?_, fun i d hk q => ?_, fun i d hk q => ?_, fun i j a d e hi hj q1 q2 q3 q4 => ?_⟩
    · show ((wipeD ρ vs).set v none).length = ((L2.wipe σ vs).set v none).length
      simp [h.len]
    · obtain ⟨n, q⟩ := key i d q
      rw [keyV i n]
      exact h.dat i d hk q
    · obtain ⟨n, q⟩ := key i d q
      rw [keyV i n]
      exact h.own i d hk q
    · obtain ⟨n1, q1⟩ := key i d q1
      obtain ⟨n2, q2⟩ := key j e q2
      rw [keyV i n1] at q3
      rw [keyV j n2] at q4
      exact h.apart i j a d e hi hj q1 q2 q3 q4
theorem wipe_get (ρ : Stk) (vs : List Nat) (i : Nat) : (L2.wipe ρ vs)[i]? = if i ∈ vs then (if i < ρ.length then some none else none) else ρ[i]? := by
  induction vs with
  | nil => simp [L2.wipe]
  | cons v vs ih =>
    show ((L2.wipe ρ vs).set v none)[i]? = _
    by_cases e : v = i
    · subst e
      rw [if_pos (by simp)]
      by_cases hv : v < ρ.length
      · rw [List.getElem?_set_self (by rw [wipe_length]; exact hv), if_pos hv]
      · rw [List.getElem?_eq_none (by simp [wipe_length]; omega), if_neg hv]
    · rw [List.getElem?_set_ne e, ih]
      have : (i ∈ v :: vs) ↔ i ∈ vs := by simp [Ne.symm e]
      simp only [this]
theorem wipe_eq {σ τ : Stk} {vs : List Nat} (hl : σ.length = τ.length) (h : ∀ i, i ∉ vs → σ[i]? = τ[i]?) : L2.wipe σ vs = L2.wipe τ vs := by
  apply List.ext_getElem?
  intro i
  rw [wipe_get, wipe_get, hl]
  by_cases hi : i ∈ vs
  · rw [if_pos hi, if_pos hi]
  · rw [if_neg hi, if_neg hi, h i hi]
theorem Post.mute {α γ δ : Type} {F H : Hp} {σ : Stk} {W : WX} {Rg : Rel γ δ} {x : DM α} {g : α → DM δ} {s : Drw} {Q : γ → Hp → Prop} (og : Rel.Ok C.S Rg) (hp : Post C.S F H W σ C.er Rg ((DL.mute x >>= g) s) Q) :
    ∃ d s', x s = .ok d s' ∧ Post C.S F H W σ C.er Rg (g d s') Q := by
  have hp' : Post C.S F H W σ C.er Rg (DM.bnd (DL.mute x) g s) Q := hp
  unfold DM.bnd DL.mute at hp'
  cases e : x s with
  | bad => rw [e] at hp'; exact hp'.elim
  | exc y s' => rw [e] at hp'; exact hp'.elim
  | ok d s' => rw [e] at hp'; exact ⟨d, s', rfl, hp'⟩
/-- from «it ends well so» to what is asked of the first part -/
theorem okTo {β α δ : Type} {F H : Hp} {σ : Stk} {Ra : Rel β α} {x : DM α} {g : α → DM δ} {s : Drw} {r : δ} {s2 : Drw} {Q : β → Hp → Prop} (e : (x >>= g) s = .ok r s2)
    (h : ∀ v d s' F' H', Stp C.S F H F' H' → Stt C.S F' H' s' → Ra H F' H' v d → g d s' = .ok r s2 → Q v H') : Post C.S F H (C.mute).W σ C.er Ra (x s) Q := by
  have e' : DM.bnd x g s = .ok r s2 := e
  unfold DM.bnd at e'
  cases q : x s with
  | bad => rw [q] at e'; cases e'
  | exc y s' => rw [q] at e'; cases e'
  | ok d s' => rw [q] at e'; exact fun v F' H' a b c => h v d s' F' H' a b c e'
theorem opt_ok {α δ : Type} {o : Option α} {g : α → DM δ} {s : Drw} {r : δ} {s2 : Drw} (e : (DM.opt o >>= g) s = .ok r s2) : ∃ x, o = some x ∧ g x s = .ok r s2 := by
  cases o with
  | none => cases e
  | some x => exact ⟨x, rfl, e⟩
/-- the reading is also that of x = [..] on one line -/
def LcS (X : Cx) (e : Expr) (t : TE) : Prop := ∀ (i : Nat) (y : Str) (py spos : Pos), X.N[i]? = some y → X.env.scope.names.lookup y = some .local → swapsWith e (some (.Name y py)) spos.line X.env = pure true → PS X (.Assign [.Name y py] e spos) (tAsg t (gName i))
theorem lc_both {elt tg iter : Expr} {ifs : List Expr} {scope : Scope} {own : List (Str × Nat)} {tch : List Nat} {fi : Sl → DM (List PyData)} {asg : PyData → Sl → Option Sl} {p : Sl → DM Bool} {el : Sl → DM PyData} (hc : X.calm = true) (hN : X.N.Nodup)
    (hi : PId X C κ tg iter fi) (ok : BlkOk X.N X.env.scope scope own)
    (hg : ∀ (s : Shared) (H : Hp) (B : Addr) (cl : List (Str × Addr)) (fp : List Addr), PGd (X.blk s H scope (compEnvC scope cl B X.env) fp) C.mute κ tg tch asg)
    (ht : ∀ (s : Shared) (H : Hp) (B : Addr) (cl : List (Str × Addr)) (fp : List Addr), PTsd (X.blk s H scope (compEnvC scope cl B X.env) fp) C.mute κ ifs p)
    (he : ∀ (s : Shared) (H : Hp) (B : Addr) (cl : List (Str × Addr)) (fp : List Addr), PD (X.blk s H scope (compEnvC scope cl B X.env) fp) C.mute κ elt el)
    (hw : ∀ i ∈ tch, i ∈ own.map (·.2)) (hs : ∀ x, foldedSetIterable iter X.env x = pure x := by intro _; rfl) : PX X C κ (RO C.S) (fun t => PE X (.ListComp elt [⟨tg, iter, ifs, 0⟩] scope pos) t ∧ LcS X (.ListComp elt [⟨tg, iter, ifs, 0⟩] scope pos) t) (lcF fi asg p el (own.map (·.2))) := by
  obtain ⟨wi, i1, i2⟩ := hi.ex
  refine ⟨_, ⟨pe_lc hc hN i1 ok (fun s H B cl fp => (hg s H B cl fp).pg) (fun s H B cl fp => (ht s H B cl fp).pts) (fun s H B cl fp => (he s H B cl fp).pe) hs, fun i y py spos q1 q2 q3 => ps_setLc hc hN q1 q2 q3 i1 ok (fun s H B cl fp => (hg s H B cl fp).pg) (fun s H B cl fp => (ht s H B cl fp).pts) (fun s H B cl fp => (he s H B cl fp).pe) hs⟩, fun H0 F H ρ σ s Q hs he hp => i2 H0 F H ρ σ s _ hs he (hp.fst RO.ok fun J ds s1 F1 H1 st1 ss1 w hp1 D hD => ?_)⟩
  obtain ⟨G, Y, wk, hG, hY⟩ := w.ex
  obtain ⟨ys, s2, ey, hp2⟩ := Post.mute RO.ok hp1
  -- the new list, empty
  have ow : Own C.S F1 (upd H1 D (.lst [])) D (.list []) := ⟨.lst upd_same .nil, ss1.fnone hD, ss1.notDrw hD⟩
  have stD : Stp C.S F1 H1 F1 (upd H1 D (.lst [])) := .own hD
  refine lc_it wk (fun i H => ∃ (F : Hp) (s : Drw) (acc : List V) (as bs : List PyData), Stt C.S F H s ∧ Stp C.S F1 H1 F H ∧ H D = some (.lst acc) ∧ F D = none ∧ RpAll C.S F acc as ∧ as.length ≤ i ∧ ys = as ++ bs ∧ lcL asg p el (wipeD ρ (own.map (·.2))) (ds.drop i) s = .ok bs s2) ?_ ?_ ?_ ?_
  · exact ⟨F1, s1, [], [], ys, ss1.own hD, stD, upd_same, ss1.fnone hD, .nil, Nat.le_refl _, rfl, ey⟩
  · rintro i H _ ⟨F, s, acc, as, bs, ss, st, _⟩
    exact hG H (st.le.trans ss.le)
  · rintro i x H H' hi ⟨F, s, acc, as, bs, ss, st, hacc, hFD, racc, hlen, hys, hrest⟩ y
    obtain ⟨F2, d, hd, st2, ss2, r⟩ := hY i F H x H' s hi st.le ss y
    have ed : ds.drop i = d :: ds.drop (i + 1) := by
      obtain ⟨h1, h2⟩ := List.getElem?_eq_some_iff.mp hd
      rw [List.drop_eq_getElem_cons h1, h2]
    rw [ed] at hrest
    obtain ⟨ρ1, ea, hr1⟩ := opt_ok (show (DM.opt (asg d (wipeD ρ (own.map (·.2)))) >>= fun ρ1 => p ρ1 >>= fun b => if b = true then (el ρ1 >>= fun y => lcL asg p el (wipeD ρ (own.map (·.2))) (ds.drop (i + 1)) >>= fun ys => pure (y :: ys)) else lcL asg p el (wipeD ρ (own.map (·.2))) (ds.drop (i + 1))) s = .ok bs s2 from hrest)
    have heW := ((he.step st1).step (st.trans st2)).wipe (own.map (·.2))
    have nd : ¬ isDrw C.S D := ss1.notDrw hD
    have keepD : ∀ {F' H'' : Hp}, Stp C.S F2 H' F' H'' → H'' D = some (.lst acc) ∧ F' D = none := fun st3 => by
      have a1 := st2.keep D _ hacc nd
      refine ⟨st3.keep D _ a1 nd, ?_⟩
      rw [st3.new D _ a1, st2.new D _ hacc]; exact hFD
    refine ⟨F2, H0, _, ρ1, s, d, ss2, heW, r, ea, fun σ1 he1 hl1 hn1 => ⟨?_, ?_⟩⟩
    · exact wipe_eq (σ := σ1) (τ := L2.wipe σ (own.map (·.2))) hl1 (fun i hi => hn1 i fun z => hi (hw i z)) |>.trans (wipe_eq (wipe_length _ _) fun i hi => by rw [wipe_get, if_neg hi])
    · refine ⟨H0, F2, ρ1, s, ss2, he1, okTo hr1 fun b b' s3 F3 H3 st3 ss3 rb hr2 => ?_⟩
      cases rb
      cases b with
      | false => exact ⟨F3, s3, acc, as, bs, ss3, (st.trans st2).trans st3, (keepD st3).1, (keepD st3).2, RpAll.mono (st2.le.trans st3.le).rle _ _ racc, Nat.le_succ_of_le hlen, hys, hr2⟩
      | true =>
        refine ⟨H0, F3, ρ1, s3, ss3, he1.step st3, okTo (show (el ρ1 >>= fun y => lcL asg p el (wipeD ρ (own.map (·.2))) (ds.drop (i + 1)) >>= fun ys => pure (y :: ys)) s3 = .ok bs s2 from hr2) fun z y' s4 F4 H4 st4 ss4 rz hr3 => ?_⟩
        have st34 := st3.trans st4
        obtain ⟨k1, k2⟩ := keepD st34
        have hr4 : DM.bnd (lcL asg p el (wipeD ρ (own.map (·.2))) (ds.drop (i + 1))) (fun ys => pure (y' :: ys)) s4 = .ok bs s2 := hr3
        unfold DM.bnd at hr4
        cases q : lcL asg p el (wipeD ρ (own.map (·.2))) (ds.drop (i + 1)) s4 with
        | bad => rw [q] at hr4; cases hr4
        | exc _ _ => rw [q] at hr4; cases hr4
        | ok bs' s5 =>
          rw [q] at hr4
          cases hr4
          have st04 : Stp C.S F1 H1 F4 H4 := (st.trans st2).trans st34
          refine ⟨acc, k1, ?_, F4, s4, acc ++ [z], as ++ [y'], bs', ?_, ?_, upd_same, k2, (RpAll.mono (st2.le.trans st34.le).rle _ _ racc).append (.cons rz .nil), by simp; omega, by rw [hys]; simp, q⟩
          · rw [RpAll.len racc]; exact Nat.lt_of_le_of_lt hlen (Nat.lt_of_lt_of_le hi w.len)
          · exact ⟨fun a u h => by
              have : a ≠ D := fun z => by subst z; rw [k2] at h; cases h
              rw [upd_ne this]; exact ss4.le a u h, fun pp hpp => by
              have dr := ss4.drw pp hpp
              have n1 : pp.1 ≠ D := fun e => nd ⟨pp, hpp, .inl e.symm⟩
              have n2 : pp.2.1 ≠ D := fun e => nd ⟨pp, hpp, .inr e.symm⟩
              exact ⟨by rw [upd_ne n1]; exact dr.hd, by rw [upd_ne n2]; exact dr.hg, dr.hc, dr.ne, dr.fd, dr.fg⟩⟩
          · exact ⟨st04.le, st04.new, fun a u h n => by rw [upd_ne (ne_of_none h hD)]; exact st04.keep a u h n, fun a u h => by rw [upd_ne (ne_of_none h hD)]; exact st04.there a u h⟩
  · rintro H ⟨F, s, acc, as, bs, ss, st, hacc, hFD, racc, _, hys, hrest⟩
    rw [List.drop_length] at hrest
    cases hrest
    rw [List.append_nil] at hys
    subst hys
    exact hp2 _ F H st ss ⟨D, rfl, ⟨.lst hacc racc, hFD, ss1.notDrw hD⟩, hD⟩
theorem po_lc {elt tg iter : Expr} {ifs : List Expr} {scope : Scope} {own : List (Str × Nat)} {tch : List Nat} {fi : Sl → DM (List PyData)} {asg : PyData → Sl → Option Sl} {p : Sl → DM Bool} {el : Sl → DM PyData} (hc : X.calm = true) (hN : X.N.Nodup)
    (hi : PId X C κ tg iter fi) (ok : BlkOk X.N X.env.scope scope own)
    (hg : ∀ (s : Shared) (H : Hp) (B : Addr) (cl : List (Str × Addr)) (fp : List Addr), PGd (X.blk s H scope (compEnvC scope cl B X.env) fp) C.mute κ tg tch asg)
    (ht : ∀ (s : Shared) (H : Hp) (B : Addr) (cl : List (Str × Addr)) (fp : List Addr), PTsd (X.blk s H scope (compEnvC scope cl B X.env) fp) C.mute κ ifs p)
    (he : ∀ (s : Shared) (H : Hp) (B : Addr) (cl : List (Str × Addr)) (fp : List Addr), PD (X.blk s H scope (compEnvC scope cl B X.env) fp) C.mute κ elt el)
    (hw : ∀ i ∈ tch, i ∈ own.map (·.2)) (hs : ∀ x, foldedSetIterable iter X.env x = pure x := by intro _; rfl) : PO X C κ (.ListComp elt [⟨tg, iter, ifs, 0⟩] scope pos) (lcF fi asg p el (own.map (·.2))) := 
  let ⟨t, h1, h2⟩ := (lc_both hc hN hi ok hg ht he hw hs).ex
  ⟨t, h1.1, h2⟩
/-- x = [..] -/
theorem psd_setLcO (i : Nat) {x : Str} {py spos : Pos} {e : Expr} {f : Sl → DM PyData} (hi : X.N[i]? = some x) (hx : X.env.scope.names.lookup x = some .local) (hk : κ[i]? = some true) (h : PX X C κ (RO C.S) (fun t => PE X e t ∧ LcS X e t) f) (hs : swapsWith e (some (.Name x py)) spos.line X.env = pure true := by rfl) :
    PSd X C R κ κ (.Assign [.Name x py] e spos) (asgO i f) := by
  obtain ⟨t, ⟨h1, h3⟩, h2⟩ := h.ex
  refine ⟨_, h3 i x py spos hi hx hs, fun F0 H0 F H ρ σ s D hs st he hp => h2 H0 F H ρ σ s _ hs he (hp.expr st fun v d s' F1 H1 st1 ss r hp1 => ?_)⟩
  obtain ⟨a, rfl, o, hn⟩ := r
  have he1 := he.step st1
  refine hp1.nx _ s' rfl _ F1 H1 ss (st.trans st1) (he1.setO (Hs := H) o ?_ (fun j e b hj h1 h2 _ z => ?_) hk)
  · cases q : H0 a with
    | none => rfl
    | some u => obtain ⟨u', q'⟩ := st.there a u q; rw [hn] at q'; cases q'
  · subst z
    obtain ⟨b, hb, ob, _⟩ := he.own j e hj h1
    rw [h2] at hb; cases hb
    obtain ⟨u, hu⟩ := ob.ne
    rw [hn] at hu; cases hu
theorem psd_setLc (i : Nat) {x : Str} {py spos : Pos} {e : Expr} {f : Sl → DM PyData} (hi : X.N[i]? = some x) (hx : X.env.scope.names.lookup x = some .local) (hk : κ[i]? ≠ some true) (h : PX X C κ (RO C.S) (fun t => PE X e t ∧ LcS X e t) f) (hs : swapsWith e (some (.Name x py)) spos.line X.env = pure true := by rfl) :
    PSd X C R κ κ (.Assign [.Name x py] e spos) (asgF f (gSetD i)) := by
  obtain ⟨t, ⟨h1, h3⟩, h2⟩ := h.ex
  refine ⟨_, h3 i x py spos hi hx hs, asg_sat (tch := [i]) h2.frz fun F H H0 ρ ρ' σ s v d Q ss he r e k => ?_⟩
  cases e
  refine k _ (he.setD hk r) (by simp) fun j hj => ?_
  rw [List.getElem?_set_ne]
  intro z; subst z; exact hj (by simp)
end
end DL

set_option Elab.async false
set_option autoImplicit false
set_option linter.all false
set_option maxRecDepth 100000
set_option maxHeartbeats 2000000
namespace DL
open PySem PySem.Spec PyProof.Rows L2

/-! ## what is walked, by its forms -/
theorem rd_lst {F F' : Hp} {a : Addr} {xs : List V} (h : hle F F') (r : Rd F a (.lst xs)) : Rd F' a (.lst xs) := h.rle a _ (fun _ _ z => nomatch z) r
def signs (z : Str) : List PyData := z.cps.toList.map fun c => .str ⟨#[c]⟩
def itemsOf (d : PyData) : Option (List PyData) := match d with
  | .list ds => some ds
  | .tuple ds => some ds
  | .str z => if z.cps.size ≤ sizeLine then some (signs z) else none
  | _ => none
section
variable {X : Cx} {C : Cf} {κ : List Bool} {e e2 tg : Expr} {f f2 : Sl → DM PyData} {pos p tpos : Pos}
/-- a list, a tuple, a text -/
def iSeqD (K : PySem.W.Frag) (tl : TE) : TI := fun σ H R => tl σ H fun x H1 => (∃ a xs, x = .ref a ∧ SqL K H1 a xs ∧ (xs.length ≤ sizeLine → R (Itl K a) H1)) ∨ (∃ a xs, x = .ref a ∧ SqT K H1 a xs ∧ (xs.length ≤ sizeLine → R (Itt K a) H1)) ∨ ∃ z, x = .str z ∧ R (Its z) H1
theorem pi_seqD {l : Expr} {tl : TE} (hl : PE X l tl) : PI X tg l (iSeqD X.K tl) := by
  refine ⟨fun pins s σ H R I h => ?_⟩
  refine thn (hl.run pins s σ H _ I h) fun v s1 ⟨x, H1, I1, r1, q1⟩ => ?_
  have one : ∀ b ∈ [s1.heap.objs.size], FpOk X pins H1 b := fun b hb => by
    obtain rfl : b = s1.heap.objs.size := List.mem_singleton.mp hb
    exact I1.fpOk (Nat.le_refl _) (I1.hok.fresh (Nat.le_refl _))
  rcases q1 with ⟨a, xs, e, hq, q⟩ | ⟨a, xs, e, hq, q⟩ | ⟨z, e, q⟩
  · subst e
    cases r1
    obtain ⟨its, rv, p, hz⟩ := I1.list hq
    exact wpAny_pyIter_list p.isList ⟨s1.heap.objs.size, [s1.heap.objs.size], _, _, H1, rfl, I1.kept (t' := s1.toks) fun b o e => Heap.get?_push_of_some _ e, turn_list a _, ⟨_, Heap.get?_push_size _ rfl, rfl, rfl⟩, one, q hz⟩
  · subst e
    cases r1
    obtain ⟨its, rv, p, hz⟩ := I1.tuple hq
    exact wpAny_pyIter_tuple (show s1.heap.IsTuple a its.toArray from p) ⟨s1.heap.objs.size, [s1.heap.objs.size], _, _, H1, rfl, I1.kept (t' := s1.toks) fun b o e => Heap.get?_push_of_some _ e, turn_tuple a _, ⟨_, Heap.get?_push_size _ rfl, rfl, rfl⟩, one, q hz⟩
  · subst e
    obtain ⟨t, rfl⟩ := r1
    cases ha : z.cps.all (· < 128)
    · exact wpAny_pyIter_wide ha (pi_one (tk := s1.toks) I1 _ (turn_str _ z t "str_iterator" (.inr rfl)) ⟨_, Heap.get?_push_size _ rfl, rfl, rfl⟩ q)
    · exact wpAny_pyIter_ascii ha (pi_one (tk := s1.toks) I1 _ (turn_str _ z t "str_ascii_iterator" (.inl rfl)) ⟨_, Heap.get?_push_size _ rfl, rfl, rfl⟩ q)
theorem walkD_same {S : Sig} {F : Hp} {J : It} {xs : List V} {ds : List PyData} {G : Hp → Prop} (hl : ds.length ≤ sizeLine) (w : Walk J ds.length G (YAt xs)) (hG : ∀ H, hle F H → G H) (r : RpAll S F xs ds) : WalkD S F J ds :=
  ⟨hl, G, YAt xs, w, hG, fun i F1 H1 x H2 s _ hl ss y => by
    obtain ⟨e, hx⟩ : H2 = H1 ∧ xs[i]? = some x := y
    subst e
    obtain ⟨d, hd, rd⟩ := r.getV hx
    exact ⟨F1, d, hd, .refl, ss, Rp.mono hl.rle _ _ rd⟩⟩
def itF (f : Sl → DM PyData) : Sl → DM (List PyData) := fun ρ => f ρ >>= fun d => DM.opt (itemsOf d)
theorem pid_seq (hK : X.K = C.S.K) (h : PD X C κ e f) : PId X C κ tg e (itF f) := by
  obtain ⟨t, h1, h2⟩ := h.ex
  refine ⟨_, pi_seqD h1, fun H0 F H ρ σ s Q hs he hp => h2 H0 F H ρ σ s _ hs he (hp.fst RW.ok fun v d s' F1 H1 st ss r hp1 => ?_)⟩
  rw [hK]
  cases d with
  | list ds =>
    cases r with
    | lst hr ra =>
      have hr' := sqE_mono ss.le.rle hr
      refine .inl ⟨_, _, rfl, hr'.sql, fun hz => hp1 _ F1 H1 .refl ss ?_⟩
      refine walkD_same (by rw [← RpAll.len ra]; exact hz) (by rw [← RpAll.len ra]; exact walk_list) (fun H hl => ?_) ra
      exact (sqE_mono hl.rle hr).sql
  | tuple ds =>
    cases r with
    | tup hr ra =>
      refine .inr (.inl ⟨_, _, rfl, sqT_mono ss.le.rle hr, fun hz => hp1 _ F1 H1 .refl ss ?_⟩)
      exact walkD_same (by rw [← RpAll.len ra]; exact hz) (by rw [← RpAll.len ra]; exact walk_tup) (fun H hl => sqT_mono hl.rle hr) ra
  | str z =>
    cases r
    have hp2 : Post C.S F1 H1 C.W σ C.er (RW C.S) ((DM.opt (if z.cps.size ≤ sizeLine then some (signs z) else none)) s') Q := hp1
    by_cases hz : z.cps.size ≤ sizeLine
    · rw [if_pos hz] at hp2
      have hl : (signs z).length = z.cps.size := by simp [signs]
      refine .inr (.inr ⟨z, rfl, hp2 _ F1 H1 .refl ss ⟨by rw [hl]; exact hz, _, _, by rw [hl]; exact walk_str, fun _ _ => trivial, fun i F1 H1 x H2 s _ hl ss y => ?_⟩⟩)
      obtain ⟨e, c, hc, ex⟩ := y
      subst e
      subst ex
      refine ⟨F1, .str ⟨#[c]⟩, ?_, .refl, ss, .str _⟩
      have : z.cps.toList[i]? = some c := by simpa using hc
      simp [signs, this]
    · rw [if_neg hz] at hp2; exact hp2.elim
  | none => exact hp1.elim
  | bool b => exact hp1.elim
  | int i => exact hp1.elim
  | dict ds => exact hp1.elim
/-- range(n), range(m, n) -/
def rangeL (lo : Int) (n : Nat) : List PyData := (List.range n).map fun i => .int (lo + (i : Nat))
theorem rangeL_len (lo : Int) (n : Nat) : (rangeL lo n).length = n := by simp [rangeL]
theorem walkD_range {S : Sig} {F : Hp} {lo : Int} {n : Nat} (hn : n ≤ sizeLine) : WalkD S F (Itr lo n) (rangeL lo n) :=
  ⟨by rw [rangeL_len]; exact hn, fun _ => True, YFn fun i => .int (lo + i), by rw [rangeL_len]; exact walk_range, fun _ _ => trivial, fun i F1 H1 x H2 s hi hl ss y => by
    obtain ⟨e, ex⟩ : H2 = H1 ∧ x = .int (lo + i) := y
    subst e
    subst ex
    rw [rangeL_len] at hi
    exact ⟨F1, .int (lo + i), by simp [rangeL, hi], .refl, ss, .int _⟩⟩
def rng1 (f : Sl → DM PyData) : Sl → DM (List PyData) := fun ρ => f ρ >>= fun d => DM.opt (match d with
  | .int n => if n ≤ 16777216 ∧ -16777216 ≤ n then some (rangeL 0 n.toNat) else none
  | _ => none)
theorem pid_range1 (hm : X.mg "range" = none) (h : PD X C κ e f) (hg : Gl X "range" := by rfl) (hs : starEach [e] X.env = [(false, eval e X.env)] := by rfl) (hs' : starEach (e :: []) X.env = (false, eval e X.env) :: starEach [] X.env := by rfl) : PId X C κ tg (.Call (.Name "range" p) [e] [] pos) (rng1 f) := by
  obtain ⟨t, h1, h2⟩ := h.ex
  refine ⟨_, pi_range1 hg hm (pa_cons h1 pa_nil hs') hs, fun H0 F H ρ σ s Q hs he hp => h2 H0 F H ρ σ s _ hs he (hp.fst RW.ok fun v d s' F1 H1 st ss r hp1 => ?_)⟩
  cases d <;> first | exact hp1.elim | skip
  rename_i n
  cases r
  have hp2 : Post C.S F1 H1 C.W σ C.er (RW C.S) ((DM.opt (if n ≤ 16777216 ∧ -16777216 ≤ n then some (rangeL 0 n.toNat) else none)) s') Q := hp1
  by_cases hz : n ≤ 16777216 ∧ -16777216 ≤ n
  · rw [if_pos hz] at hp2
    have e62 : (2 : Int) ^ 62 = 4611686018427387904 := by rfl
    exact ⟨n, rfl, by rw [e62]; omega, by rw [e62]; omega, hp2 _ F1 H1 .refl ss (walkD_range (by rw [sizeLine_eq]; omega))⟩
  · rw [if_neg hz] at hp2; exact hp2.elim
/-- enumerate(xs), xs a list -/
def enumL (ds : List PyData) : List PyData := (List.range ds.length).map fun i => .tuple [.int (i : Nat), ds.getD i .none]
theorem enumL_len (ds : List PyData) : (enumL ds).length = ds.length := by simp [enumL]
def enumF (f : Sl → DM PyData) : Sl → DM (List PyData) := fun ρ => f ρ >>= fun d => DM.opt (match d with
  | .list ds => if ds.length ≤ sizeLine then some (enumL ds) else none
  | _ => none)
/-- a new pair, frozen -/
theorem pair_frz {S : Sig} {F H : Hp} {s : Drw} {T : Addr} {x y : V} {a b : PyData} (ss : Stt S F H s) (hn : H T = none) (ra : Rp S F x a) (rb : Rp S F y b) :
    Stp S F H (upd F T (.tup [x, y])) (upd H T (.tup [x, y])) ∧ Stt S (upd F T (.tup [x, y])) (upd H T (.tup [x, y])) s ∧ Rp S (upd F T (.tup [x, y])) (.ref T) (.tuple [a, b]) := by
  have st := Stp.frz (S := S) (o := .tup [x, y]) hn (ss.fnone hn)
  exact ⟨st, ss.frz hn, .tup (.inl (.inl upd_same)) (.cons (Rp.mono st.le.rle _ _ ra) (.cons (Rp.mono st.le.rle _ _ rb) .nil))⟩
theorem pid_enum {elts : List Expr} {kk : Nat} (hK : X.K = C.S.K) (hm : X.mg "enumerate" = none) (h : PD X C κ e f) (hg : Gl X "enumerate" := by rfl) (hs : starEach [e] X.env = [(false, eval e X.env)] := by rfl) (hs' : starEach (e :: []) X.env = (false, eval e X.env) :: starEach [] X.env := by rfl) :
    PId X C κ (.Tuple elts kk tpos) (.Call (.Name "enumerate" p) [e] [] pos) (enumF f) := by
  obtain ⟨t, h1, h2⟩ := h.ex
  refine ⟨_, pi_enum hg hm (pa_cons h1 pa_nil hs') hs, fun H0 F H ρ σ s Q hs he hp => h2 H0 F H ρ σ s _ hs he (hp.fst RW.ok fun v d s' F1 H1 st ss r hp1 => ?_)⟩
  cases d <;> first | exact hp1.elim | skip
  rename_i ds
  rw [hK]
  have hp2 : Post C.S F1 H1 C.W σ C.er (RW C.S) ((DM.opt (if ds.length ≤ sizeLine then some (enumL ds) else none)) s') Q := hp1
  by_cases hz : ds.length ≤ sizeLine
  · rw [if_pos hz] at hp2
    cases r with
    | lst hr ra =>
      have hq : ∀ H, hle F1 H → SqL C.S.K H _ _ := fun H hl => (sqE_mono hl.rle hr).sql
      refine ⟨_, _, rfl, hq H1 ss.le, hp2 _ F1 H1 .refl ss ⟨by rw [enumL_len]; exact hz, _, _, by rw [enumL_len, ← RpAll.len ra]; exact walk_enum, hq, fun i F2 H2 x H3 s hi hl ss2 y => ?_⟩⟩
      obtain ⟨T, x1, x2, ex, hT, eH, e1, e2⟩ := y
      subst ex
      subst eH
      cases e1
      obtain ⟨d, hd, rd⟩ := ra.getV e2
      obtain ⟨a1, a2, a3⟩ := pair_frz ss2 hT (.int (i : Nat)) (Rp.mono hl.rle _ _ rd)
      refine ⟨_, .tuple [.int (i : Nat), d], ?_, a1, a2, a3⟩
      obtain ⟨h1, h2⟩ := List.getElem?_eq_some_iff.mp hd
      simp [enumL, h1, h2, List.getD, hd]
  · rw [if_neg hz] at hp2; exact hp2.elim
/-- zip of two lists or of two tuples -/
def zipL (ds es : List PyData) : List PyData := (ds.zip es).map fun p => .tuple [p.1, p.2]
end
end DL

set_option Elab.async false
set_option autoImplicit false
set_option linter.all false
set_option maxRecDepth 100000
set_option maxHeartbeats 2000000
namespace DL
open PySem PySem.Spec PyProof.Rows L2

/-! ## arguments that may be read, calls of built-ins -/
inductive RBs (S : Sig) (F H : Hp) : List V → List PyData → Prop
  | nil : RBs S F H [] []
  | cons {v : V} {vs : List V} {d : PyData} {ds : List PyData} : RB S H F H v d → RBs S F H vs ds → RBs S F H (v :: vs) (d :: ds)
def RQ (S : Sig) : Rel (List V) (List PyData) := fun _ F H vs ds => RBs S F H vs ds
theorem RBs.step {S : Sig} {F H F' H' : Hp} (x : Stp S F H F' H') : ∀ {vs : List V} {ds : List PyData}, RBs S F H vs ds → RBs S F' H' vs ds
  | _, _, .nil => .nil
  | _, _, .cons r t => .cons (RB.ok.step r x) (RBs.step x t)
theorem RQ.ok {S : Sig} : Rel.Ok S (RQ S) := ⟨fun r x => RBs.step x r, fun _ r => r⟩
abbrev PQd (X : Cx) (C : Cf) (κ : List Bool) (es : List Expr) (f : Sl → DM (List PyData)) : Prop := PX X C κ (RQ C.S) (PA X es) f
structure CallD (X : Cx) (C : Cf) (f : Value) (R : Rel V PyData) (g : List PyData → DM PyData) : Prop where
  ex : ∃ r : List V → Hp → VK → Prop, CallR X f r ∧ ∀ (F H : Hp) (s : Drw) (σ : Stk) (vs : List V) (ds : List PyData) (Q : V → Hp → Prop), Stt C.S F H s → RBs C.S F H vs ds → PSt C F H σ R (g ds s) Q → r vs H Q
structure MtD (X : Cx) (C : Cf) (T id : String) (R : Rel V PyData) (g : PyData → List PyData → DM PyData) : Prop where
  ex : ∃ r : V → List V → Hp → VK → Prop, MtR X id r ∧ ∀ (F H Hs : Hp) (s : Drw) (σ : Stk) (x : V) (d : PyData) (vs : List V) (ds : List PyData) (Q : V → Hp → Prop), Stt C.S F H s → RB C.S Hs F H x d → RBs C.S F H vs ds → PSt C F H σ R (g d ds s) Q → r x vs H Q
/-- what the type's method needs of the receiver -/
def tyD (T : String) (d : PyData) : Bool := match d with
  | .str _ => T == "str"
  | .list _ => T == "list"
  | _ => false
section
variable {X : Cx} {C : Cf} {κ : List Bool} {e o : Expr} {es : List Expr} {f fo : Sl → DM PyData} {fs : Sl → DM (List PyData)} {R : Rel V PyData} {g : List PyData → DM PyData} {pos p apos cpos : Pos}
theorem pqd_nil : PQd X C κ [] (fun _ => pure []) := ⟨_, pa_nil, fun H0 F H ρ σ s Q hs he hp => hp [] F H .refl hs .nil⟩
theorem pqd_cons (ha : PB X C κ e f) (hr : PQd X C κ es fs) (hs : starEach (e :: es) X.env = (false, eval e X.env) :: starEach es X.env := by rfl) : PQd X C κ (e :: es) (aCons f fs) := by
  obtain ⟨ta, h1, h2⟩ := ha.ex
  obtain ⟨tr, k1, k2⟩ := hr.ex
  exact ⟨_, pa_cons h1 k1 hs, fun H0 F H ρ σ s Q hs he hp => h2 H0 F H ρ σ s _ hs he (hp.fst RQ.ok fun x d s' F1 H1 st ss r hp1 => k2 H0 F1 H1 ρ σ s' _ ss (he.step st)
    (hp1.fst RQ.ok fun xs ds s2 F2 H2 st2 ss2 rs hp2 => hp2 (x :: xs) F2 H2 .refl ss2 (.cons (RB.ok.step r st2) rs)))⟩
def fCall (fs : Sl → DM (List PyData)) (g : List PyData → DM PyData) : Sl → DM PyData := fun ρ => fs ρ >>= g
theorem px_callB {x : Str} {id : String} (og : Rel.Ok C.S R) (hr : CallD X C (.builtin id) R g) (hm : X.mg x = none) (hb : bootBuiltins x = some (.builtin id)) (ha : PQd X C κ (e :: es) fs) (hg : Gl X x := by rfl)
    (hn : x ≠ "__name__" := by decide) (hd : (x == ("__debug__" : Str)) = false := by decide) (he : starEach (e :: es) X.env = (false, eval e X.env) :: starEach es X.env := by rfl) (hpl : (backTo pos (starEach es X.env)).any (·.1) = false := by rfl) :
    PX X C κ R (PE X (.Call (.Name x p) (e :: es) [] pos)) (fCall fs g) := by
  obtain ⟨r, h1, h2⟩ := hr.ex
  obtain ⟨t, k1, k2⟩ := ha.ex
  exact ⟨_, pe_callB h1 hg hm hb k1 hn hd he hpl, fun H0 F H ρ σ s Q hs he hp => k2 H0 F H ρ σ s _ hs he (hp.fst og fun vs ds s' F1 H1 st ss r hp1 => h2 F1 H1 s' σ vs ds Q ss r hp1)⟩
theorem px_callTy {x : Str} {T : String} (og : Rel.Ok C.S R) (hr : CallD X C (.type T) R g) (hm : X.mg x = none) (hb : bootBuiltins x = some (.type T)) (ha : PQd X C κ (e :: es) fs) (hg : Gl X x := by rfl)
    (hn : x ≠ "__name__" := by decide) (hd : (x == ("__debug__" : Str)) = false := by decide) (he : starEach (e :: es) X.env = (false, eval e X.env) :: starEach es X.env := by rfl) (hpl : (backTo pos (starEach es X.env)).any (·.1) = false := by rfl) :
    PX X C κ R (PE X (.Call (.Name x p) (e :: es) [] pos)) (fCall fs g) := by
  obtain ⟨r, h1, h2⟩ := hr.ex
  obtain ⟨t, k1, k2⟩ := ha.ex
  exact ⟨_, pe_callTy h1 hg hm hb k1 hn hd he hpl, fun H0 F H ρ σ s Q hs he hp => k2 H0 F H ρ σ s _ hs he (hp.fst og fun vs ds s' F1 H1 st ss r hp1 => h2 F1 H1 s' σ vs ds Q ss r hp1)⟩
theorem CallR.or {f : Value} {r1 r2 : List V → Hp → VK → Prop} (h1 : CallR X f r1) (h2 : CallR X f r2) : CallR X f (fun vs H Q => r1 vs H Q ∨ r2 vs H Q) := by
  intro pins s σ H xs us Q I rx h
  rcases h with h | h
  · exact h1 pins s σ H xs us Q I rx h
  · exact h2 pins s σ H xs us Q I rx h
/-! ### methods of built-in types that change nothing -/
def fMeth (T : String) (fo : Sl → DM PyData) (fs : Sl → DM (List PyData)) (g : PyData → List PyData → DM PyData) : Sl → DM PyData := fun ρ => fo ρ >>= fun d => DM.opt (if tyD T d = true then some () else none) >>= fun _ => fs ρ >>= fun ds => g d ds
theorem tyD_ok {T : String} {F H Hs : Hp} {v : V} {d : PyData} (hl : hle F H) (h : tyD T d = true) (r : RB C.S Hs F H v d) : tyV C.S.K T v H := by
  cases d with
  | str z =>
    rw [r.str]
    show T = "str"
    simpa [tyD] using h
  | list ds =>
    obtain ⟨a, xs, rfl, h1, _⟩ := r.list hl
    exact .inl ⟨by simpa [tyD] using h, xs, h1.sql⟩
  | none => simp [tyD] at h
  | bool b => simp [tyD] at h
  | int b => simp [tyD] at h
  | tuple b => simp [tyD] at h
  | dict b => simp [tyD] at h
theorem px_meth {T id : String} {name : Str} {gm : PyData → List PyData → DM PyData} (og : Rel.Ok C.S R) (hK : X.K = C.S.K) (pa : PlainAttrs T) (slot : Slot T name id) (hty : typeOf (.builtin id) = pure (.type "method_descriptor")) (hm : MtD X C T id R gm) (ho : PB X C κ o fo) (ha : PQd X C κ (e :: es) fs)
    (hbase : attributeBase o name X.env (eval o X.env) = eval o X.env := by rfl)
    (hfew : ((backTo cpos (starEach (e :: es) X.env)).all (fun x => !x.1) && (backToKw cpos (keywordEach [] X.env)).all (fun x => x.1.isSome)
      && decide ((e :: es).length + ([] : List Keyword).length + (if ([] : List Keyword).isEmpty then 0 else 1) < 30)) = true := by rfl)
    (hline : (apos.endLine == cpos.line) = true := by rfl) (hs : starEach (e :: es) X.env = (false, eval e X.env) :: starEach es X.env := by rfl) (hplain : (backTo cpos (starEach es X.env)).any (·.1) = false := by rfl) :
    PX X C κ R (PE X (.Call (.Attribute o name apos) (e :: es) [] cpos)) (fMeth T fo fs gm) := by
  obtain ⟨r, h1, h2⟩ := hm.ex
  obtain ⟨to, k1, k2⟩ := ho.ex
  obtain ⟨t, l1, l2⟩ := ha.ex
  refine ⟨_, pe_bm pa slot hty h1 k1 l1 hbase hfew hline hs hplain, fun H0 F H ρ σ s Q hs he hp => k2 H0 F H ρ σ s _ hs he (hp.fst og fun v d s' F1 H1 st ss rv hp1 => ?_)⟩
  obtain ⟨_, hk, hp2⟩ := opt_post hp1
  have ht : tyD T d = true := by
    by_cases q : tyD T d = true
    · exact q
    · rw [if_neg q] at hk; cases hk
  refine ⟨by rw [hK]; exact tyD_ok ss.le ht rv, l2 H0 F1 H1 ρ σ s' _ ss (he.step st) (hp2.fst og fun vs ds s2 F2 H2 st2 ss2 rs hp3 => h2 F2 H2 H s2 σ v d vs ds Q ss2 (RB.ok.step rv st2) rs hp3)⟩

/-! ### len -/
def lenOf (d : PyData) : Option Int := match d with
  | .list ds => some ds.length
  | .tuple ds => some ds.length
  | .str z => if z.length ≤ sizeLine then some z.length else none
  | _ => none
def lenD (ds : List PyData) : DM PyData := match ds with
  | [d] => DM.opt (lenOf d) >>= fun n => pure (.int n)
  | _ => DM.fail
theorem calld_len (hK : X.K = C.S.K) : CallD X C (.builtin "len") (RD C.S) lenD := by
  refine ⟨_, call_len, fun F H s σ vs ds Q ss r hp => ?_⟩
  rw [hK]
  match ds, r with
  | [], _ => exact hp.elim
  | [d], .cons r1 .nil =>
    obtain ⟨n, hn, hp2⟩ := opt_post (show Post C.S F H C.W σ C.er (RD C.S) ((DM.opt (lenOf d) >>= fun n => (pure (.int n) : DM PyData)) s) Q from hp)
    have fin := hp2 (.int n) F H .refl ss (.int n)
    cases d with
    | list ds =>
      obtain ⟨a, xs, rfl, h1, ra⟩ := r1.list ss.le
      cases hn
      exact ⟨_, xs.length, rfl, .inl ⟨xs, h1.sql, rfl⟩, by rw [RpAll.len ra]; exact fin⟩
    | tuple ds =>
      obtain ⟨a, xs, rfl, h1, ra⟩ := r1.tuple ss.le
      cases hn
      exact ⟨_, xs.length, rfl, .inr ⟨xs, h1, rfl⟩, by rw [RpAll.len ra]; exact fin⟩
    | str z =>
      rw [r1.str]
      have hn' : (if z.length ≤ sizeLine then some (z.length : Int) else none) = some n := hn
      by_cases hz : z.length ≤ sizeLine
      · rw [if_pos hz] at hn'; cases hn'; exact ⟨_, z.length, rfl, ⟨hz, rfl⟩, fin⟩
      · rw [if_neg hz] at hn'; cases hn'
    | none => cases hn
    | bool b => cases hn
    | int i => cases hn
    | dict d => cases hn
  | _ :: _ :: _, _ => exact hp.elim
/-! ### list(..), tuple(..) -/
def listD (ds : List PyData) : DM PyData := match ds with
  | [.list xs] => pure (.list xs)
  | [.tuple xs] => pure (.list xs)
  | _ => DM.fail
def tupleD (ds : List PyData) : DM PyData := match ds with
  | [.list xs] => pure (.tuple xs)
  | [.tuple xs] => pure (.tuple xs)
  | _ => DM.fail
theorem calld_list (hK : X.K = C.S.K) : CallD X C (.type "list") (RO C.S) listD := by
  refine ⟨_, call_list_of, fun F H s σ vs ds Q ss r hp => ?_⟩
  rw [hK]
  match ds, r with
  | [], _ => exact hp.elim
  | [d], .cons r1 .nil =>
    cases d with
    | list ds =>
      obtain ⟨a, xs, rfl, h1, ra⟩ := r1.list ss.le
      exact ⟨_, xs, rfl, .inl h1.sql, fun l hl => hp _ _ _ (.own hl) (ss.own hl) (ss.newL hl ra)⟩
    | tuple ds =>
      obtain ⟨a, xs, rfl, h1, ra⟩ := r1.tuple ss.le
      exact ⟨_, xs, rfl, .inr h1, fun l hl => hp _ _ _ (.own hl) (ss.own hl) (ss.newL hl ra)⟩
    | none => exact hp.elim
    | bool b => exact hp.elim
    | int i => exact hp.elim
    | str d => exact hp.elim
    | dict d => exact hp.elim
  | d :: _ :: _, _ => cases d <;> exact hp.elim
theorem calld_tuple (hK : X.K = C.S.K) : CallD X C (.type "tuple") (RD C.S) tupleD := by
  refine ⟨_, call_tuple_of, fun F H s σ vs ds Q ss r hp => ?_⟩
  rw [hK]
  match ds, r with
  | [], _ => exact hp.elim
  | [d], .cons r1 .nil =>
    cases d with
    | list ds =>
      obtain ⟨a, xs, rfl, h1, ra⟩ := r1.list ss.le
      refine ⟨_, xs, rfl, .inl ⟨h1.sql, fun l hl => ?_⟩⟩
      have st := Stp.frz (S := C.S) (o := .tup xs) hl (ss.fnone hl)
      exact hp _ _ _ st (ss.frz hl) (.tup (.inl (.inl upd_same)) (RpAll.mono st.le.rle _ _ ra))
    | tuple ds =>
      have rr := r1
      obtain ⟨a, xs, rfl, h1, ra⟩ := r1.tuple ss.le
      refine ⟨_, xs, rfl, .inr ⟨h1, hp _ F H .refl ss ?_⟩⟩
      rcases rr with q | ⟨b, e, ow⟩
      · exact q
      · cases ow.c
    | none => exact hp.elim
    | bool b => exact hp.elim
    | int i => exact hp.elim
    | str d => exact hp.elim
    | dict d => exact hp.elim
  | d :: _ :: _, _ => cases d <;> exact hp.elim
/-! ### all, any of lists of bools -/
def boolsOf : List PyData → Option (List Bool)
  | [] => some []
  | .bool b :: r => (boolsOf r).map (b :: ·)
  | _ => none
theorem boolsOf_map : ∀ {ds : List PyData} {bs : List Bool}, boolsOf ds = some bs → ds = bs.map PyData.bool
  | [], _, h => by cases h; rfl
  | d :: r, bs, h => by
    cases d with
    | bool b =>
      obtain ⟨cs, h1, h2⟩ := Option.map_eq_some_iff.mp (show (boolsOf r).map (b :: ·) = some bs from h)
      subst h2
      rw [boolsOf_map h1]; rfl
    | none => cases h
    | int i => cases h
    | str d => cases h
    | dict d => cases h
    | list d => cases h
    | tuple d => cases h
theorem RpAll.bools {S : Sig} {F : Hp} : ∀ {bs : List Bool} {xs : List V}, RpAll S F xs (bs.map PyData.bool) → xs = bs.map V.bl
  | [], _, r => by cases r; rfl
  | b :: bs, _, r => by
    cases r with
    | cons h t => cases h; rw [RpAll.bools t]; rfl
def allD (ds : List PyData) : DM PyData := match ds with
  | [.list xs] => DM.opt (boolsOf xs) >>= fun bs => pure (.bool (bs.all id))
  | _ => DM.fail
def anyD (ds : List PyData) : DM PyData := match ds with
  | [.list xs] => DM.opt (boolsOf xs) >>= fun bs => pure (.bool (bs.any id))
  | _ => DM.fail
theorem calld_all (hc : X.calm = true) (hK : X.K = C.S.K) : CallD X C (.builtin "all") (RD C.S) allD := by
  refine ⟨_, cr_all hc, fun F H s σ vs ds Q ss r hp => ?_⟩
  rw [hK]
  match ds, r with
  | [], _ => exact hp.elim
  | [d], .cons r1 .nil =>
    cases d with
    | list ds =>
      obtain ⟨bs, hb, hp2⟩ := opt_post (show Post C.S F H C.W σ C.er (RD C.S) ((DM.opt (boolsOf ds) >>= fun bs => (pure (.bool (bs.all id)) : DM PyData)) s) Q from hp)
      rw [boolsOf_map hb] at r1
      obtain ⟨a, xs, rfl, h1, ra⟩ := r1.list ss.le
      rw [RpAll.bools ra] at h1
      exact ⟨a, bs, rfl, h1.sql, hp2 _ F H .refl ss (.bl _)⟩
    | none => exact hp.elim
    | bool b => exact hp.elim
    | int i => exact hp.elim
    | str d => exact hp.elim
    | dict d => exact hp.elim
    | tuple d => exact hp.elim
  | d :: _ :: _, _ => cases d <;> exact hp.elim
theorem calld_any (hc : X.calm = true) (hK : X.K = C.S.K) : CallD X C (.builtin "any") (RD C.S) anyD := by
  refine ⟨_, cr_any hc, fun F H s σ vs ds Q ss r hp => ?_⟩
  rw [hK]
  match ds, r with
  | [], _ => exact hp.elim
  | [d], .cons r1 .nil =>
    cases d with
    | list ds =>
      obtain ⟨bs, hb, hp2⟩ := opt_post (show Post C.S F H C.W σ C.er (RD C.S) ((DM.opt (boolsOf ds) >>= fun bs => (pure (.bool (bs.any id)) : DM PyData)) s) Q from hp)
      rw [boolsOf_map hb] at r1
      obtain ⟨a, xs, rfl, h1, ra⟩ := r1.list ss.le
      rw [RpAll.bools ra] at h1
      exact ⟨a, bs, rfl, h1.sql, hp2 _ F H .refl ss (.bl _)⟩
    | none => exact hp.elim
    | bool b => exact hp.elim
    | int i => exact hp.elim
    | str d => exact hp.elim
    | dict d => exact hp.elim
    | tuple d => exact hp.elim
  | d :: _ :: _, _ => cases d <;> exact hp.elim
end
end DL

set_option Elab.async false
set_option autoImplicit false
set_option linter.all false
set_option maxRecDepth 100000
set_option maxHeartbeats 2000000
namespace DL
open PySem PySem.Spec PyProof.Rows L2

/-! ## defs -/
/-- how data and errors lie, by where the draw is -/
structure Lay where
  K : PySem.W.Frag
  fam : Option (Addr × Addr × Addr) → Sig
  erf : Option (Addr × Addr × Addr) → Hp → Err → Value → Option Addr → Prop
  hK : ∀ da, (fam da).K = K
abbrev Lay.cf (L : Lay) (da : Option (Addr × Addr × Addr)) (W : WX) : Cf := ⟨L.fam da, L.erf da, W⟩
abbrev RelS := Sig → Rel V PyData
def spD (L : Lay) (n : Nat) (m : List PyData → DM PyData) (R : RelS) : Sp := fun vs H Q E => ∃ (da : Option (Addr × Addr × Addr)) (F : Hp) (ds : List PyData) (s : Drw), ds.length = n ∧ Stt (L.fam da) F H s ∧ RpAll (L.fam da) F vs ds ∧
  Post (L.fam da) F H (fun cls d _ H' => E cls d H') [] (L.erf da) (R (L.fam da)) (m ds s) Q
def slots (N : Nat) (ds : List PyData) : Sl := ds.map some ++ List.replicate (N - ds.length) none
def runB (N : Nat) (g : Sl → DM Fl) : List PyData → DM PyData := fun ds => g (slots N ds) >>= fun r => match r with
  | .ret d => pure d
  | .nx _ => pure .none
  | _ => DM.fail
def runO (N : Nat) (g : Sl → DM Fl) : List PyData → DM PyData := fun ds => g (slots N ds) >>= fun r => match r with
  | .ret d => pure d
  | _ => DM.fail
theorem slots_get {N : Nat} {ds : List PyData} {i : Nat} {d : PyData} (h : (slots N ds)[i]? = some (some d)) : i < ds.length ∧ ds[i]? = some d := by
  unfold slots at h
  by_cases hi : i < ds.length
  · rw [List.getElem?_append_left (by simpa using hi)] at h
    refine ⟨hi, ?_⟩
    rw [List.getElem?_map] at h
    cases q : ds[i]? with
    | none => rw [q] at h; cases h
    | some x => rw [q] at h; simpa using h
  · rw [List.getElem?_append_right (by simpa using hi)] at h
    rw [List.getElem?_replicate] at h
    split at h <;> cases h
theorem env_start {S : Sig} {H F : Hp} {κ : List Bool} {N : List Str} {vs : List V} {ds : List PyData} {n : Nat} (hn : ds.length = n) (hN : n ≤ N.length) (hκ : ∀ i, i < n → κ[i]? ≠ some true) (r : RpAll S F vs ds) : EnvR S H F H κ (slots N.length ds) (L2.start N vs) where
  len := by unfold slots L2.start; simp [RpAll.len r]
  dat := fun i d _ h => by
    obtain ⟨hi, hd⟩ := slots_get h
    obtain ⟨v, hv, rv⟩ := r.get hd
    refine ⟨v, ?_, rv⟩
    unfold L2.start
    have hl := RpAll.len r
    rw [List.getElem?_append_left (by simpa [hl] using hi), List.getElem?_map, hv]
    rfl
  own := fun i d hk h => by
    obtain ⟨hi, _⟩ := slots_get h
    exact absurd hk (hκ i (by omega))
  apart := fun i j a d e hk _ h => by
    obtain ⟨hi, _⟩ := slots_get h
    exact absurd hk (hκ i (by omega))
section
variable {P : Program} {w : World} {mg : Str → Option Value} {base : Heap} {L : Lay} {x qual : Str} {params : Arguments} {body : List Stmt} {scope : Scope} {f : Addr} {fd : FuncData} {N ps : List Str} {k : Nat} {κ κ' : List Bool} {g : Sl → DM Fl}
/-- a def that hands back data -/
theorem fn_okD (F : FunD L.K x qual params body scope [] [] f fd) (sc : FnScope N ps scope) (hN : ps.length ≤ N.length) (hκ : ∀ i, i < ps.length → κ[i]? ≠ some true)
    (hb : ∀ (cdv : Value) (A : Around) (outer : List Env) (s : Shared) (H : Hp) (E : XK) (da : Option (Addr × Addr × Addr)), Room k (A.deeper (envOfC qual scope s.heap.objs.size f cdv)) → A.guards = some [] →
      PSsd (cxOf (L2.CX P w) P w L.K mg base N qual scope f cdv A outer s H E) (L.cf da fun cls d _ H' => E cls d H') (RD (L.fam da)) κ κ' body g) :
    FnG P w L.K mg base (L2.CX P w) (k + 1) f fd ps (spD L ps.length (runB N.length g) RD) := by
  refine FnG.of F sc (fun vs H Q E h => ?_) (fun cdv A outer s H vs Q E hr hgd h => ?_)
  · obtain ⟨da, F, ds, s, hn, _, r, _⟩ := h
    rw [RpAll.len r, hn]
  · obtain ⟨da, F, ds, s0, hn, ss, r, hp⟩ := h
    obtain ⟨t, h1, h2⟩ := (hb cdv A outer s H E da hr hgd).ex
    refine ⟨t, h1, h2 F H F H (slots N.length ds) (L2.start N vs) s0 _ ss .refl (env_start hn hN hκ r) ?_⟩
    have hp' : Post (L.fam da) F H (fun cls d _ H' => E cls d H') [] (L.erf da) (RD (L.fam da)) (DM.bnd (g (slots N.length ds)) (fun r => match r with | .ret d => pure d | .nx _ => pure .none | _ => DM.fail) s0) Q := hp
    unfold DM.bnd at hp'
    cases e : g (slots N.length ds) s0 with
    | bad => rw [e] at hp'; exact hp'.elim
    | exc y s' =>
      rw [e] at hp'
      exact ⟨(fun _ _ z => nomatch z), (fun _ _ z => nomatch z), (fun _ _ z => nomatch z), (fun _ _ z => nomatch z), fun e s' h σ cls dx F' H' a b c => by cases h; exact hp' cls dx F' H' b a c, (fun z => nomatch z)⟩
    | ok r s' =>
      rw [e] at hp'
      cases r with
      | nx ρ => exact ⟨fun ρ s' h σ' F' H' a b c => by cases h; exact hp' .non F' H' b a .non, (fun _ _ z => nomatch z), (fun _ _ z => nomatch z), (fun _ _ z => nomatch z), (fun _ _ z => nomatch z), (fun z => nomatch z)⟩
      | ret d => exact ⟨(fun _ _ z => nomatch z), fun d s' h v F' H' a b c => by cases h; exact hp' v F' H' b a c, (fun _ _ z => nomatch z), (fun _ _ z => nomatch z), (fun _ _ z => nomatch z), (fun z => nomatch z)⟩
      | brk ρ => exact hp'.elim
      | ct ρ => exact hp'.elim
/-- a def that hands back what R tells -/
theorem fn_okR {R : RelS} (F : FunD L.K x qual params body scope [] [] f fd) (sc : FnScope N ps scope) (hN : ps.length ≤ N.length) (hκ : ∀ i, i < ps.length → κ[i]? ≠ some true)
    (hb : ∀ (cdv : Value) (A : Around) (outer : List Env) (s : Shared) (H : Hp) (E : XK) (da : Option (Addr × Addr × Addr)), Room k (A.deeper (envOfC qual scope s.heap.objs.size f cdv)) → A.guards = some [] →
      PSsd (cxOf (L2.CX P w) P w L.K mg base N qual scope f cdv A outer s H E) (L.cf da fun cls d _ H' => E cls d H') (R (L.fam da)) κ κ' body g) :
    FnG P w L.K mg base (L2.CX P w) (k + 1) f fd ps (spD L ps.length (runO N.length g) R) := by
  refine FnG.of F sc (fun vs H Q E h => ?_) (fun cdv A outer s H vs Q E hr hgd h => ?_)
  · obtain ⟨da, F, ds, s, hn, _, r, _⟩ := h
    rw [RpAll.len r, hn]
  · obtain ⟨da, F, ds, s0, hn, ss, r, hp⟩ := h
    obtain ⟨t, h1, h2⟩ := (hb cdv A outer s H E da hr hgd).ex
    refine ⟨t, h1, h2 F H F H (slots N.length ds) (L2.start N vs) s0 _ ss .refl (env_start hn hN hκ r) ?_⟩
    have hp' : Post (L.fam da) F H (fun cls d _ H' => E cls d H') [] (L.erf da) (R (L.fam da)) (DM.bnd (g (slots N.length ds)) (fun r => match r with | .ret d => pure d | _ => DM.fail) s0) Q := hp
    unfold DM.bnd at hp'
    cases e : g (slots N.length ds) s0 with
    | bad => rw [e] at hp'; exact hp'.elim
    | exc y s' =>
      rw [e] at hp'
      exact ⟨(fun _ _ z => nomatch z), (fun _ _ z => nomatch z), (fun _ _ z => nomatch z), (fun _ _ z => nomatch z), fun e s' h σ cls dx F' H' a b c => by cases h; exact hp' cls dx F' H' b a c, (fun z => nomatch z)⟩
    | ok r s' =>
      rw [e] at hp'
      cases r with
      | nx ρ => exact hp'.elim
      | ret d => exact ⟨(fun _ _ z => nomatch z), fun d s' h v F' H' a b c => by cases h; exact hp' v F' H' b a c, (fun _ _ z => nomatch z), (fun _ _ z => nomatch z), (fun _ _ z => nomatch z), (fun z => nomatch z)⟩
      | brk ρ => exact hp'.elim
      | ct ρ => exact hp'.elim
/-- a new container -/
theorem fn_okO (F : FunD L.K x qual params body scope [] [] f fd) (sc : FnScope N ps scope) (hN : ps.length ≤ N.length) (hκ : ∀ i, i < ps.length → κ[i]? ≠ some true)
    (hb : ∀ (cdv : Value) (A : Around) (outer : List Env) (s : Shared) (H : Hp) (E : XK) (da : Option (Addr × Addr × Addr)), Room k (A.deeper (envOfC qual scope s.heap.objs.size f cdv)) → A.guards = some [] →
      PSsd (cxOf (L2.CX P w) P w L.K mg base N qual scope f cdv A outer s H E) (L.cf da fun cls d _ H' => E cls d H') (RO (L.fam da)) κ κ' body g) :
    FnG P w L.K mg base (L2.CX P w) (k + 1) f fd ps (spD L ps.length (runO N.length g) RO) := fn_okR F sc hN hκ hb
end
/-! ## calls -/
structure PAn (X : Cx) (C : Cf) (κ : List Bool) (es : List Expr) (n : Nat) (f : Sl → DM (List PyData)) : Prop where
  pa : PAd X C κ es f
  len : ∀ ρ s ds s', f ρ s = .ok ds s' → ds.length = n
section
variable {X : Cx} {L : Lay} {da : Option (Addr × Addr × Addr)} {W : WX} {κ : List Bool} {e : Expr} {es : List Expr} {f : Sl → DM PyData} {fs : Sl → DM (List PyData)} {n k : Nat} {pos p : Pos} {x : Str} {fa : Addr} {fd : FuncData} {ps : List Str} {m : List PyData → DM PyData} {R : RelS}
theorem pan_nil {C : Cf} : PAn X C κ [] 0 (fun _ => pure []) := ⟨pad_nil, fun ρ s ds s' h => by cases h; rfl⟩
theorem bnd_ok {α β : Type} {x : DM α} {g : α → DM β} {s s2 : Drw} {r : β} (h : (x >>= g) s = .ok r s2) : ∃ a s1, x s = .ok a s1 ∧ g a s1 = .ok r s2 := by
  have h' : DM.bnd x g s = .ok r s2 := h
  unfold DM.bnd at h'
  cases e : x s with
  | bad => rw [e] at h'; cases h'
  | exc y s' => rw [e] at h'; cases h'
  | ok a s' => rw [e] at h'; exact ⟨a, s', rfl, h'⟩
theorem pan_cons {C : Cf} (ha : PD X C κ e f) (hr : PAn X C κ es n fs) (hs : starEach (e :: es) X.env = (false, eval e X.env) :: starEach es X.env := by rfl) : PAn X C κ (e :: es) (n + 1) (aCons f fs) := ⟨pad_cons ha hr.pa hs, fun ρ s ds s' h => by
  obtain ⟨d, s1, _, h2⟩ := bnd_ok (show (f ρ >>= fun d => fs ρ >>= fun ds => pure (d :: ds)) s = .ok ds s' from h)
  obtain ⟨ds', s2, h3, h4⟩ := bnd_ok h2
  have hl := hr.len ρ s1 ds' s2 h3
  cases h4
  simp [hl]⟩
theorem px_call (F : FnG X.prog X.w X.K X.mg X.base (L2.CX X.prog X.w) k fa fd ps (spD L n m R)) (og : ∀ S, Rel.Ok S (R S)) (hr : Room k X.A) (hgd : X.A.guards = some []) (hm : X.mg x = some (.ref fa)) (hk : PySem.W.keepIn X.K (.ref fa) = true) (hb : L2.Binds X.K fd ps []) (tk : Takes X W) (ha : PAn X (L.cf da W) κ (e :: es) n fs)
    (hg : Gl X x := by rfl) (hdb : (x == ("__debug__" : Str)) = false := by decide) (he : starEach (e :: es) X.env = (false, eval e X.env) :: starEach es X.env := by rfl) (hpl : (backTo pos (starEach es X.env)).any (·.1) = false := by rfl) :
    PX X (L.cf da W) κ (R (L.fam da)) (PE X (.Call (.Name x p) (e :: es) [] pos)) (fun ρ => fs ρ >>= m) := by
  obtain ⟨t, h1, h2⟩ := ha.pa.ex
  refine ⟨_, pe_callG F hr hgd hg hm hk hb (fun σ => passAt tk σ) h1 hdb he hpl, fun H0 F0 H ρ σ s Q hs he hp => ?_⟩
  have key : ∀ ds s', fs ρ s = .ok ds s' → ds.length = n := fun ds s' h => ha.len ρ s ds s' h
  refine h2 H0 F0 H ρ σ s _ hs he ?_
  have hp' : Post (L.fam da) F0 H W σ (L.erf da) (R (L.fam da)) (DM.bnd (fs ρ) m s) Q := hp
  unfold DM.bnd at hp'
  cases e : fs ρ s with
  | bad => rw [e] at hp'; exact hp'
  | exc y s' => rw [e] at hp'; exact hp'
  | ok ds s' =>
    rw [e] at hp'
    intro vs F1 H1 st1 ss1 r1
    refine ⟨da, F1, ds, s', key ds s' e, ss1, r1, ?_⟩
    have hp2 : Post (L.fam da) F0 H W σ (L.erf da) (R (L.fam da)) (m ds s') Q := hp'
    cases e2 : m ds s' with
    | bad => rw [e2] at hp2; exact hp2
    | exc y s2 => rw [e2] at hp2; exact fun cls dx F' H' a b c => hp2 cls dx F' H' (st1.trans a) b c
    | ok d s2 => rw [e2] at hp2; exact fun v F' H' a b c => hp2 v F' H' (st1.trans a) b ((og _).back st1.there c)
end
end DL

set_option Elab.async false
set_option autoImplicit false
set_option linter.all false
set_option maxRecDepth 100000
set_option maxHeartbeats 2000000
namespace DL
open PySem PySem.Spec PyProof.Rows L2

/-! ## own containers change -/
theorem Ctn.other {S : Sig} {F H : Hp} {a b : Addr} {o : HO} {d : PyData} (h : b ≠ a) (c : Ctn S F H b d) : Ctn S F (upd H a o) b d := by
  cases c with
  | lst h1 r => exact .lst (by rw [upd_ne h]; exact h1) r
  | dK h1 r => exact .dK (by rw [upd_ne h]; exact h1) r
  | dT h1 r => exact .dT (by rw [upd_ne h]; exact h1) r
theorem own_upd {S : Sig} {F0 H0 F H : Hp} {κ : List Bool} {ρ : Sl} {σ : Stk} {s : Drw} {i : Nat} {d d' : PyData} {a : Addr} {o : HO} (ss : Stt S F H s) (st : Stp S F0 H0 F H) (he : EnvR S H0 F H κ ρ σ) (hk : κ[i]? = some true)
    (hρ : ρ[i]? = some (some d)) (hσ : σ[i]? = some (some (.ref a))) (c : Ctn S F (upd H a o) a d') : Stt S F (upd H a o) s ∧ Stp S F0 H0 F (upd H a o) ∧ EnvR S H0 F (upd H a o) κ (ρ.set i (some d')) σ := by
  obtain ⟨b, hb, ob, h0⟩ := he.own i d hk hρ
  rw [hσ] at hb
  cases hb
  obtain ⟨u, hu⟩ := ob.ne
  have nd := ob.nd
  refine ⟨⟨fun b v h => ?_, fun p hp => ?_⟩, ⟨st.le, st.new, fun b v h n => ?_, fun b v h => ?_⟩, ⟨by simp [he.len], fun j e hj h => ?_, fun j e hj h => ?_, fun j l b e1 e2 hj hl h1 h2 h3 h4 => ?_⟩⟩
  · by_cases e : b = a
    · subst e; rw [ob.fa] at h; cases h
    · rw [upd_ne e]; exact ss.le b v h
  · have q := ss.drw p hp
    have n1 : p.1 ≠ a := fun e => nd ⟨p, hp, .inl e.symm⟩
    have n2 : p.2.1 ≠ a := fun e => nd ⟨p, hp, .inr e.symm⟩
    exact ⟨by rw [upd_ne n1]; exact q.hd, by rw [upd_ne n2]; exact q.hg, q.hc, q.ne, q.fd, q.fg⟩
  · rw [upd_ne (ne_of_none h h0)]; exact st.keep b v h n
  · rw [upd_ne (ne_of_none h h0)]; exact st.there b v h
  · have hij : i ≠ j := fun z => by subst z; exact hj hk
    rw [List.getElem?_set_ne hij] at h
    exact he.dat j e hj h
  · by_cases hij : i = j
    · subst hij
      have hi : i < ρ.length := (List.getElem?_eq_some_iff.mp hρ).1
      rw [List.getElem?_set_self hi] at h
      cases h
      exact ⟨a, hσ, ⟨c, ob.fa, nd⟩, h0⟩
    · rw [List.getElem?_set_ne hij] at h
      obtain ⟨b, h1, h2, h3⟩ := he.own j e hj h
      have hba : b ≠ a := fun z => by subst z; exact hij (he.apart i j b d e hk hj hρ h hσ h1)
      exact ⟨b, h1, ⟨h2.c.other hba, h2.fa, h2.nd⟩, h3⟩
  · by_cases n1 : i = j
    · by_cases n2 : i = l
      · omega
      · subst n1
        rw [List.getElem?_set_ne n2] at h2
        exact he.apart i l b d e2 hk hl hρ h2 h3 h4
    · rw [List.getElem?_set_ne n1] at h1
      by_cases n2 : i = l
      · subst n2
        exact he.apart j i b e1 d hj hk h1 hρ h3 h4
      · rw [List.getElem?_set_ne n2] at h2
        exact he.apart j l b e1 e2 hj hl h1 h2 h3 h4
def listAt (i : Nat) (ρ : Sl) : Option (List PyData) := match ρ[i]? with
  | some (some (.list ds)) => some ds
  | _ => none
theorem listAt_some {i : Nat} {ρ : Sl} {ds : List PyData} (h : listAt i ρ = some ds) : ρ[i]? = some (some (.list ds)) := by
  unfold listAt at h
  cases q : ρ[i]? with
  | none => rw [q] at h; cases h
  | some o =>
    rw [q] at h
    cases o with
    | none => cases h
    | some d => cases d <;> first | (cases h; rfl) | cases h
section
variable {X : Cx} {C : Cf} {R : Rel V PyData} {κ : List Bool} {e ei : Expr} {es : List Expr} {f fi : Sl → DM PyData} {pos apos cpos pos2 pos3 : Pos} {x : Str} {i j : Nat}
/-- the own list in slot i -/
theorem own_list {H0 F H : Hp} {ρ : Sl} {σ : Stk} {ds : List PyData} (he : EnvR C.S H0 F H κ ρ σ) (hk : κ[i]? = some true) (h : listAt i ρ = some ds) :
    ∃ a xs, σ[i]? = some (some (.ref a)) ∧ H a = some (.lst xs) ∧ RpAll C.S F xs ds ∧ ¬ isDrw C.S a ∧ F a = none := by
  obtain ⟨a, h1, h2, _⟩ := he.own i _ hk (listAt_some h)
  cases h2.c with
  | lst h3 h4 => exact ⟨a, _, h1, h3, h4, h2.nd, h2.fa⟩
/-- x.append(e) -/
def appF (i : Nat) (f : Sl → DM PyData) : Sl → DM Fl := fun ρ => DM.opt (listAt i ρ) >>= fun ds => f ρ >>= fun d => if ds.length < sizeLine then pure (.nx (ρ.set i (some (.list (ds ++ [d]))))) else DM.fail
theorem psd_append (i : Nat) (hv : PE X (.Name x pos2) (tVar i)) (hk : κ[i]? = some true) (h : PD X C κ e f) (hc : ∀ q : Sl, True := by intro _; trivial) (hK : X.K = C.S.K)
    (hbase : attributeBase (.Name x pos2) "append" X.env (eval (.Name x pos2) X.env) = eval (.Name x pos2) X.env := by rfl)
    (hfew : ((backTo cpos (starEach (e :: []) X.env)).all (fun x => !x.1) && (backToKw cpos (keywordEach [] X.env)).all (fun x => x.1.isSome)
      && decide ((e :: []).length + ([] : List Keyword).length + (if ([] : List Keyword).isEmpty then 0 else 1) < 30)) = true := by rfl)
    (hline : (apos.endLine == cpos.line) = true := by rfl) (hs : starEach (e :: []) X.env = (false, eval e X.env) :: starEach [] X.env := by rfl) (hplain : (backTo cpos (starEach [] X.env)).any (·.1) = false := by rfl)
    (hsw : swapsWith (.Call (.Attribute (.Name x pos2) "append" apos) [e] [] cpos) none pos.line X.env = pure false := by rfl) :
    PSd X C R κ κ (.Expr (.Call (.Attribute (.Name x pos2) "append" apos) [e] [] cpos) pos) (appF i f) := by
  obtain ⟨t, h1, h2⟩ := h.ex
  refine ⟨_, ps_expr (pe_bm PySem.F.plainAttrs_list PySem.F.slot_list_append PySem.F.type_list_append mt_append hv (pa_cons h1 pa_nil hs) hbase hfew hline hs hplain) hsw, fun F0 H0 F H ρ σ s D hs st he hp => ?_⟩
  obtain ⟨ds, hd, hp1⟩ := hp.opt
  obtain ⟨a, xs, hσ, ha, r, nd, hF⟩ := own_list he hk hd
  refine ⟨_, hσ, .inl ⟨rfl, xs, by rw [hK]; exact .inl (.inl ha)⟩, h2 H0 F H ρ σ s _ hs he (hp1.expr st fun v d s' F1 H1 st1 ss rv hp2 => ?_)⟩
  by_cases hz : ds.length < sizeLine
  · rw [if_pos hz] at hp2
    have r1 := RpAll.mono st1.le.rle _ _ r
    refine ⟨a, xs, v, rfl, rfl, st1.keep a _ ha nd, by rw [RpAll.len r]; exact hz, ?_⟩
    obtain ⟨q1, q2, q3⟩ := own_upd (o := .lst (xs ++ [v])) ss (st.trans st1) (he.step st1) hk (listAt_some hd) hσ (.lst upd_same (r1.append (.cons rv .nil)))
    exact hp2.nx _ s' rfl σ F1 _ q1 q2 q3
  · rw [if_neg hz] at hp2; exact (hp2.ok rfl).elim
/-- y = x.pop() -/
def popF (j i : Nat) : Sl → DM Fl := fun ρ => DM.opt (listAt i ρ) >>= fun ds => DM.opt ds.getLast? >>= fun d => pure (.nx ((ρ.set i (some (.list ds.dropLast))).set j (some d)))
theorem RpAll.dropLast {S : Sig} {F : Hp} {vs : List V} {ds : List PyData} (r : RpAll S F vs ds) : RpAll S F vs.dropLast ds.dropLast := by
  rw [List.dropLast_eq_take, List.dropLast_eq_take, RpAll.len r]
  exact r.take _
theorem psd_pop (j i : Nat) {y : Str} {pos' : Pos} (hN : X.N.Nodup) (hj : X.N[j]? = some y) (hx : Loc X.env.scope y) (hkj : κ[j]? ≠ some true) (hv : PE X (.Name x pos2) (tVar i)) (hk : κ[i]? = some true) (hK : X.K = C.S.K)
    (hbase : attributeBase (.Name x pos2) "pop" X.env (eval (.Name x pos2) X.env) = eval (.Name x pos2) X.env := by rfl) (hline : (apos.endLine == cpos.line) = true := by rfl)
    (hs : swapsWith (.Call (.Attribute (.Name x pos2) "pop" apos) [] [] cpos) (some (.Name y pos')) pos.line X.env = pure false := by rfl)
    (hf : X.fn y = true ∨ X.env.scope.names.lookup y = some .local := by first | exact .inl rfl | exact .inr rfl | assumption) :
    PSd X C R κ κ (.Assign [.Name y pos'] (.Call (.Attribute (.Name x pos2) "pop" apos) [] [] cpos) pos) (popF j i) := by
  refine ⟨_, ps_set hN hj hx (pe_bm0 PySem.F.plainAttrs_list PySem.F.slot_list_pop PySem.F.type_list_pop mt_pop hv hbase hline) hs hf, fun F0 H0 F H ρ σ s D hs st he hp => ?_⟩
  obtain ⟨ds, hd, hp1⟩ := hp.opt
  obtain ⟨d, hl, hp2⟩ := hp1.opt
  obtain ⟨a, xs, hσ, ha, r, nd, hF⟩ := own_list he hk hd
  have hl' : ds[ds.length - 1]? = some d := by rw [← List.getLast?_eq_getElem?]; exact hl
  obtain ⟨v, hv', rv⟩ := r.get hl'
  refine ⟨_, hσ, .inl ⟨rfl, xs, by rw [hK]; exact .inl (.inl ha)⟩, a, xs, v, rfl, rfl, ha, by rw [RpAll.len r]; exact hv', ?_⟩
  obtain ⟨q1, q2, q3⟩ := own_upd (o := .lst xs.dropLast) hs st he hk (listAt_some hd) hσ (.lst upd_same r.dropLast)
  exact hp2.nx _ s rfl _ F _ q1 q2 (q3.setD hkj rv)
/-- y.append(x.pop(e)) -/
def popAtF (j i : Nat) (f : Sl → DM PyData) : Sl → DM Fl := fun ρ => DM.opt (listAt j ρ) >>= fun es => DM.opt (listAt i ρ) >>= fun ds => f ρ >>= fun k => DM.opt (match k with
  | .int n => if 0 ≤ n ∧ n < ds.length ∧ n < 16777216 ∧ es.length < sizeLine then (ds[n.toNat]?).map fun d => (n.toNat, d) else none
  | _ => none) >>= fun q => pure (.nx ((ρ.set i (some (.list (ds.eraseIdx q.1)))).set j (some (.list (es ++ [q.2])))))
theorem psd_popAt (j i : Nat) {y : Str} {pos4 pos5 pos6 : Pos} (hij : i ≠ j) (hy : PE X (.Name y pos3) (tVar j)) (hv : PE X (.Name x pos2) (tVar i)) (hkj : κ[j]? = some true) (hk : κ[i]? = some true) (h : PD X C κ e f) (hK : X.K = C.S.K)
    (hbase : attributeBase (.Name x pos2) "pop" X.env (eval (.Name x pos2) X.env) = eval (.Name x pos2) X.env := by rfl)
    (hfew : ((backTo cpos (starEach (e :: []) X.env)).all (fun x => !x.1) && (backToKw cpos (keywordEach [] X.env)).all (fun x => x.1.isSome)
      && decide ((e :: []).length + ([] : List Keyword).length + (if ([] : List Keyword).isEmpty then 0 else 1) < 30)) = true := by rfl)
    (hline : (apos.endLine == cpos.line) = true := by rfl) (hs : starEach (e :: []) X.env = (false, eval e X.env) :: starEach [] X.env := by rfl) (hplain : (backTo cpos (starEach [] X.env)).any (·.1) = false := by rfl)
    (hbase2 : attributeBase (.Name y pos3) "append" X.env (eval (.Name y pos3) X.env) = eval (.Name y pos3) X.env := by rfl)
    (hfew2 : ((backTo pos5 (starEach ((.Call (.Attribute (.Name x pos2) "pop" apos) [e] [] cpos) :: []) X.env)).all (fun x => !x.1) && (backToKw pos5 (keywordEach [] X.env)).all (fun x => x.1.isSome)
      && decide (((.Call (.Attribute (.Name x pos2) "pop" apos) [e] [] cpos : Expr) :: []).length + ([] : List Keyword).length + (if ([] : List Keyword).isEmpty then 0 else 1) < 30)) = true := by rfl)
    (hline2 : (pos4.endLine == pos5.line) = true := by rfl) (hs2 : starEach ((.Call (.Attribute (.Name x pos2) "pop" apos) [e] [] cpos) :: []) X.env = (false, eval (.Call (.Attribute (.Name x pos2) "pop" apos) [e] [] cpos) X.env) :: starEach [] X.env := by rfl) (hplain2 : (backTo pos5 (starEach [] X.env)).any (·.1) = false := by rfl)
    (hsw : swapsWith (.Call (.Attribute (.Name y pos3) "append" pos4) [.Call (.Attribute (.Name x pos2) "pop" apos) [e] [] cpos] [] pos5) none pos6.line X.env = pure false := by rfl) :
    PSd X C R κ κ (.Expr (.Call (.Attribute (.Name y pos3) "append" pos4) [.Call (.Attribute (.Name x pos2) "pop" apos) [e] [] cpos] [] pos5) pos6) (popAtF j i f) := by
  obtain ⟨t, h1, h2⟩ := h.ex
  refine ⟨_, ps_expr (pe_bm PySem.F.plainAttrs_list PySem.F.slot_list_append PySem.F.type_list_append mt_append hy (pa_cons (pe_bm PySem.F.plainAttrs_list PySem.F.slot_list_pop PySem.F.type_list_pop mt_popAt hv (pa_cons h1 pa_nil hs) hbase hfew hline hs hplain) pa_nil hs2) hbase2 hfew2 hline2 hs2 hplain2) hsw, fun F0 H0 F H ρ σ s D hs st he hp => ?_⟩
  obtain ⟨es, hes, hp0⟩ := hp.opt
  obtain ⟨ds, hd, hp1⟩ := hp0.opt
  obtain ⟨a, xs, hσ, ha, r, nd, hF⟩ := own_list he hk hd
  obtain ⟨b, ys, hτ, hb, rb, ndb, hFb⟩ := own_list he hkj hes
  have hab : b ≠ a := fun z => by subst z; exact hij (he.apart i j b _ _ hk hkj (listAt_some hd) (listAt_some hes) hσ hτ)
  refine ⟨_, hτ, .inl ⟨rfl, ys, by rw [hK]; exact .inl (.inl hb)⟩, _, hσ, .inl ⟨rfl, xs, by rw [hK]; exact .inl (.inl ha)⟩, h2 H0 F H ρ σ s _ hs he (hp1.expr st fun v d s' F1 H1 st1 ss rv hp2 => ?_)⟩
  obtain ⟨⟨n, z⟩, hn, hp3⟩ := hp2.opt
  cases d <;> first | cases hn | skip
  rename_i k
  cases rv
  have hn' : (if 0 ≤ k ∧ k < ds.length ∧ k < 16777216 ∧ es.length < sizeLine then (ds[k.toNat]?).map fun d => (k.toNat, d) else none) = some (n, z) := hn
  by_cases hc : 0 ≤ k ∧ k < ds.length ∧ k < 16777216 ∧ es.length < sizeLine
  · rw [if_pos hc] at hn'
    obtain ⟨c1, c2, c3, c4⟩ := hc
    obtain ⟨z', hz', e2⟩ := Option.map_eq_some_iff.mp hn'
    cases e2
    have r1 := RpAll.mono st1.le.rle _ _ r
    have rb1 := RpAll.mono st1.le.rle _ _ rb
    obtain ⟨w, hw, rw'⟩ := r1.get hz'
    have e63 : (2 : Int) ^ 63 = 9223372036854775808 := by rfl
    have hlen := RpAll.len r
    refine ⟨a, xs, k, k.toNat, w, rfl, rfl, st1.keep a _ ha nd, by rw [e63]; omega, by rw [e63]; omega, ?_, hw, b, ys, w, rfl, rfl, ?_, by rw [RpAll.len rb]; exact c4, ?_⟩
    · unfold seqIndex?
      rw [hlen]
      simp only [show (if k < 0 then k + (ds.length : Int) else k) = k by rw [if_neg (by omega)]]
      simp
      omega
    · rw [upd_ne hab]; exact st1.keep b _ hb ndb
    · obtain ⟨q1, q2, q3⟩ := own_upd (o := .lst (xs.eraseIdx k.toNat)) ss (st.trans st1) (he.step st1) hk (listAt_some hd) hσ (.lst upd_same (r1.eraseIdx _))
      have hj2 : (ρ.set i (some (.list (ds.eraseIdx k.toNat))))[j]? = some (some (.list es)) := by rw [List.getElem?_set_ne hij]; exact listAt_some hes
      obtain ⟨p1, p2, p3⟩ := own_upd (o := .lst (ys ++ [w])) q1 q2 q3 hkj hj2 hτ (.lst upd_same (rb1.append (.cons rw' .nil)))
      exact hp3.nx _ s' rfl σ F1 _ p1 p2 p3
  · rw [if_neg hc] at hn'; cases hn'
end
end DL

set_option Elab.async false
set_option autoImplicit false
set_option linter.all false
set_option maxRecDepth 100000
set_option maxHeartbeats 2000000
/-! the draw -/
namespace DL
open PySem PySem.Spec PyProof.Rows L2

def drwD : PyData := spc .none
def isDr (d : PyData) : DM Unit := match d with
  | .dict [(.list [], .none)] => pure ()
  | _ => DM.fail
theorem isDr_eq {d : PyData} {s : Drw} : (d = drwD ∧ isDr d s = .ok () s) ∨ isDr d s = .bad := by
  unfold isDr
  split
  · exact .inl ⟨rfl, rfl⟩
  · exact .inr rfl
theorem isDr_post {γ δ : Type} {C : Cf} {F H : Hp} {σ : Stk} {R : Rel γ δ} {g : Unit → DM δ} {d : PyData} {s : Drw} {Q : γ → Hp → Prop} (hp : Post C.S F H C.W σ C.er R ((isDr d >>= g) s) Q) : d = drwD ∧ Post C.S F H C.W σ C.er R (g () s) Q := by
  have hp' : Post C.S F H C.W σ C.er R (DM.bnd (isDr d) g s) Q := hp
  unfold DM.bnd at hp'
  rcases isDr_eq (d := d) (s := s) with ⟨e, h⟩ | h
  · rw [h] at hp'; exact ⟨e, hp'⟩
  · rw [h] at hp'; exact hp'.elim
theorem isDr_spost {C : Cf} {R : Rel V PyData} {κ' : List Bool} {F0 H0 : Hp} {g : Unit → DM Fl} {d : PyData} {s : Drw} {D : Ends} (hp : SPost C R κ' F0 H0 ((isDr d >>= g) s) D) : d = drwD ∧ SPost C R κ' F0 H0 (g () s) D := by
  have hp' : SPost C R κ' F0 H0 (DM.bnd (isDr d) g s) D := hp
  unfold DM.bnd at hp'
  rcases isDr_eq (d := d) (s := s) with ⟨e, h⟩ | h
  · rw [h] at hp'; exact ⟨e, hp'⟩
  · rw [h] at hp'; exact (hp'.ok rfl).elim
def DrSp (S : Sig) : Prop := ∀ F v, S.sp F v .none → ∃ p, S.da = some p ∧ v = .ref p.1
theorem spcInv {S : Sig} {F : Hp} {v : V} {p : PyData} (r : Rp S F v (DL.spc p)) : S.sp F v p := by
  unfold DL.spc at r
  generalize hd : PyData.dict [(PyData.list [], p)] = d at r
  cases r with
  | spc h => cases hd; exact h
  | dK h1 h2 =>
    cases hd
    generalize he : [(PyData.list [], p)] = ds at h2
    cases h2 with
    | nil => cases he
    | @cons k v vs d ds r t => cases k <;> cases he
  | dT h1 h2 =>
    cases hd
    generalize he : [(PyData.list [], p)] = ds at h2
    cases h2 with
    | nil => cases he
    | @cons k v vs d ds r t => cases he
  | _ => cases hd
theorem RB.drw {S : Sig} {F H Hs : Hp} {v : V} (hd : DrSp S) (r : Rp S F v drwD) : ∃ p, S.da = some p ∧ v = .ref p.1 := hd F v (spcInv r)

/-! fields: the two ints -/
structure DrF (x : Str) (get : Drw → Int) (put : Drw → Int → Drw) : Prop where
  val : ∀ g c s, valV (drwK g c s) (.inr x) = some (.int (get s))
  pu : ∀ g c s i, putK (drwK g c s) (.inr x) (.int i) = drwK g c (put s i)
  gr : ∀ s i, (put s i).great = s.great
  ce : ∀ s i, (put s i).cells = s.cells
theorem drF_turn : DrF "turn" (·.turn) (fun s i => { s with turn := i }) := ⟨fun _ _ _ => rfl, fun _ _ _ _ => rfl, fun _ _ => rfl, fun _ _ => rfl⟩
theorem drF_rest : DrF "rest" (·.rest) (fun s i => { s with rest := i }) := ⟨fun _ _ _ => rfl, fun _ _ _ _ => rfl, fun _ _ => rfl, fun _ _ => rfl⟩
section
variable {X : Cx} {C : Cf} {R : Rel V PyData} {κ : List Bool} {o e : Expr} {f fo : Sl → DM PyData} {pos p1 p2 p3 p4 p5 p6 p7 : Pos} {x : Str} {get : Drw → Int} {put : Drw → Int → Drw} {j j2 : _}
def drI (get : Drw → Int) (fo : Sl → DM PyData) : Sl → DM PyData := fun ρ => fo ρ >>= fun d => isDr d >>= fun _ => fun s => .ok (.int (get s)) s
theorem pd_drI (hf : DrF x get put) (hd : DrSp C.S) (hu : X.A.units + 1 < cLine) (ho : PD X C κ o fo) (hs : NoSl (.Constant (.str x) j p1) := by intro _ _; rfl) : PD X C κ (.Subscript o (.Constant (.str x) j p1) pos) (drI get fo) := by
  obtain ⟨t, h1, h2⟩ := ho.ex
  refine ⟨_, pe_dget hu h1 pe_str hs, fun H0 F H ρ σ s Q hs he hp => h2 H0 F H ρ σ s _ hs he (hp.fst RD.ok fun v d s' F1 H1 st ss r hp1 => ?_)⟩
  obtain ⟨ed, hp2⟩ := isDr_post hp1
  subst ed
  obtain ⟨p, hda, ev⟩ := RB.drw (H := H1) (Hs := H1) hd r
  have dr := ss.drw p hda
  exact ⟨p.1, _, ev, .inl ⟨_, .inr x, .inl dr.hd, rfl, (hf.val p.2.1 p.2.2 s').symm⟩, hp2 _ F1 H1 .refl ss (.int _)⟩
/-- the draw's ints changed -/
theorem Stt.putDr {S : Sig} {F H : Hp} {s : Drw} {p : Addr × Addr × Addr} {i : Int} (hf : DrF x get put) (hda : S.da = some p) (ss : Stt S F H s) : Stt S F (upd H p.1 (.dK (drwK p.2.1 p.2.2 (put s i)))) (put s i) where
  le := fun a u h => by
    have dr := ss.drw p hda
    have ne : a ≠ p.1 := fun z => by subst z; rw [dr.fd] at h; cases h
    rw [upd_ne ne]; exact ss.le a u h
  drw := fun q hq => by
    rw [hda] at hq
    cases hq
    have dr := ss.drw p hda
    exact ⟨upd_same, by rw [upd_ne (Ne.symm dr.ne), hf.gr]; exact dr.hg, by rw [hf.ce]; exact dr.hc, dr.ne, dr.fd, dr.fg⟩
theorem Stp.drw {S : Sig} {F H H' : Hp} (h : ∀ a, ¬ isDrw S a → H' a = H a) (h2 : ∀ a o, H a = some o → ∃ o', H' a = some o') : Stp S F H F H' := ⟨hle.refl _, fun _ _ _ => rfl, fun a o e n => by rw [h a n]; exact e, h2⟩
theorem Stp.put1 {S : Sig} {F H : Hp} {p : Addr × Addr × Addr} {o : HO} (hda : S.da = some p) : Stp S F H F (upd H p.1 o) := Stp.drw (fun a n => upd_ne fun z => n ⟨p, hda, .inl z⟩) fun a u e => by
  by_cases z : a = p.1
  · subst z; exact ⟨_, upd_same⟩
  · exact ⟨u, by rw [upd_ne z]; exact e⟩
theorem Stp.put2 {S : Sig} {F H : Hp} {p : Addr × Addr × Addr} {o : HO} (hda : S.da = some p) : Stp S F H F (upd H p.2.1 o) := Stp.drw (fun a n => upd_ne fun z => n ⟨p, hda, .inr z⟩) fun a u e => by
  by_cases z : a = p.2.1
  · subst z; exact ⟨_, upd_same⟩
  · exact ⟨u, by rw [upd_ne z]; exact e⟩
/-- draw[x] = e -/
def drPut (put : Drw → Int → Drw) (f fo : Sl → DM PyData) : Sl → DM Fl := fun ρ => f ρ >>= fun v => fo ρ >>= fun d => isDr d >>= fun _ => match v with
  | .int i => fun s => .ok (.nx ρ) (put s i)
  | _ => DM.fail
theorem psd_drPut (hf : DrF x get put) (hd : DrSp C.S) (hu : X.A.units + 1 < cLine) (ho : PD X C κ o fo) (h : PD X C κ e f)
    (hsw : swapsWith e (some (.Subscript o (.Constant (.str x) j p1) p2)) pos.line X.env = pure false := by rfl) : PSd X C R κ κ (.Assign [.Subscript o (.Constant (.str x) j p1) p2] e pos) (drPut put f fo) := by
  obtain ⟨to, h1, h2⟩ := ho.ex
  obtain ⟨t, k1, k2⟩ := h.ex
  refine ⟨_, ps_dput hu h1 pe_str k1 hsw, fun F0 H0 F H ρ σ s D hs st he hp => k2 H0 F H ρ σ s _ hs he (hp.expr st fun v d s' F1 H1 st1 ss rv hp1 => h2 H0 F1 H1 ρ σ s' _ ss (he.step st1) (hp1.expr (st.trans st1) fun v2 d2 s2 F2 H2 st2 ss2 r2 hp2 => ?_))⟩
  obtain ⟨ed, hp3⟩ := isDr_spost hp2
  subst ed
  obtain ⟨p, hda, ev⟩ := RB.drw (H := H1) (Hs := H1) hd r2
  have dr := ss2.drw p hda
  cases d with
  | int i =>
    cases rv
    refine ⟨p.1, _, ev, .inl ⟨_, .inr x, dr.hd, rfl, by show 4 < sizeLine; rw [sizeLine_eq]; decide, rfl⟩, ?_⟩
    rw [hf.pu]
    have sp := Stp.put1 (S := C.S) (F := F2) (H := H2) (o := .dK (drwK p.2.1 p.2.2 (put s2 i))) hda
    exact hp3.nx ρ _ rfl σ F2 _ (ss2.putDr hf hda) (((st.trans st1).trans st2).trans sp) (((he.step st1).step st2).step sp)
  | none => exact (hp3.ok rfl).elim
  | bool b => exact (hp3.ok rfl).elim
  | str b => exact (hp3.ok rfl).elim
  | list b => exact (hp3.ok rfl).elim
  | tuple b => exact (hp3.ok rfl).elim
  | dict b => exact (hp3.ok rfl).elim
/-- draw["cells"] -/
def drC (fo : Sl → DM PyData) : Sl → DM PyData := fun ρ => fo ρ >>= fun d => isDr d >>= fun _ => fun s => .ok (.list (s.cells.map PyData.int)) s
theorem pd_drC (hd : DrSp C.S) (hu : X.A.units + 1 < cLine) (ho : PD X C κ o fo) (hs : NoSl (.Constant (.str "cells") j p1) := by intro _ _; rfl) : PD X C κ (.Subscript o (.Constant (.str "cells") j p1) pos) (drC fo) := by
  obtain ⟨t, h1, h2⟩ := ho.ex
  refine ⟨_, pe_dget hu h1 pe_str hs, fun H0 F H ρ σ s Q hs he hp => h2 H0 F H ρ σ s _ hs he (hp.fst RD.ok fun v d s' F1 H1 st ss r hp1 => ?_)⟩
  obtain ⟨ed, hp2⟩ := isDr_post hp1
  subst ed
  obtain ⟨p, hda, ev⟩ := RB.drw (H := H1) (Hs := H1) hd r
  have dr := ss.drw p hda
  exact ⟨p.1, _, ev, .inl ⟨_, .inr "cells", .inl dr.hd, rfl, rfl⟩, hp2 (.ref p.2.2) F1 H1 .refl ss (.lst (.inl (.inl dr.hc)) (RpAll.ints _))⟩
/-- draw["great"] != [] -/
def drNe (fo : Sl → DM PyData) : Sl → DM Bool := fun ρ => fo ρ >>= fun d => isDr d >>= fun _ => fun s => .ok (!s.great.isEmpty) s
theorem plainAll_ints : ∀ (ns : List Int), PyData.plainAll (ns.map PyData.int) = true
  | [] => rfl
  | n :: ns => by simp only [List.map_cons, PyData.plainAll, PyData.plain, plainAll_ints ns, Bool.and_self]
theorem DpAll.ints {K : PySem.W.Frag} {H : Hp} : ∀ (ns : List Int), DpAll K H (ns.map V.int) (ns.map PyData.int)
  | [] => .nil
  | n :: ns => .cons (.int n) (DpAll.ints ns)
theorem ptd_drNe (hd : DrSp C.S) (hK : X.K = C.S.K) (hu : X.A.units + 64 < cLine) (ho : PD X C κ o fo) (hm : behindInMarks .NotEq (.List [] p3) = false) (hs : NoSl (.Constant (.str "great") j p1) := by intro _ _; rfl) :
    PTd X C κ (.Compare (.Subscript o (.Constant (.str "great") j p1) p2) [.NotEq] [.List [] p3] pos) (drNe fo) := by
  obtain ⟨t, h1, h2⟩ := ho.ex
  refine ⟨_, pt_cmpR (op_neP hu) (pe_dget (by omega) h1 pe_str hs) (pe_lst pa_nil) hm, fun H0 F H ρ σ s Q hs he hp => h2 H0 F H ρ σ s _ hs he (hp.fst RE.ok fun v d s' F1 H1 st ss r hp1 => ?_)⟩
  obtain ⟨ed, hp2⟩ := isDr_post hp1
  subst ed
  obtain ⟨p, hda, ev⟩ := RB.drw (H := H1) (Hs := H1) hd r
  have dr := ss.drw p hda
  refine ⟨p.1, _, ev, .inl ⟨_, .inr "great", .inl dr.hd, rfl, rfl⟩, Nat.zero_le _, fun l hl => ?_⟩
  have g2 : upd H1 l (.lst []) p.2.1 = some (.lst (s'.great.map V.int)) := by rw [upd_ne (ne_of_none dr.hg hl)]; exact dr.hg
  refine ⟨.list (s'.great.map PyData.int), .list [], .lst (.inl (.inl g2)) (DpAll.ints _), .lst (.inl (.inl upd_same)) .nil, by simp only [PyData.plain]; exact plainAll_ints _, rfl, ?_, ?_⟩
  · have : PyData.depth (.list []) ≤ 64 := by decide
    omega
  · refine ⟨_, rfl, hp2 _ F1 _ (.own hl) (ss.own hl) ?_⟩
    cases s'.great <;> rfl
/-- draw["rest"] = draw["great"].pop(0) -/
def drPop (i : Nat) : Sl → DM Fl := fun ρ => sGet i ρ >>= fun d => isDr d >>= fun _ => fun s => match s.great with
  | [] => .bad
  | n :: ns => .ok (.nx ρ) { s with great := ns, rest := n }
theorem Stt.popDr {S : Sig} {F H : Hp} {s : Drw} {p : Addr × Addr × Addr} {n : Int} {ns : List Int} (hda : S.da = some p) (ss : Stt S F H s) (hg : s.great = n :: ns) : Stt S F (upd H p.2.1 (.lst (ns.map V.int))) { s with great := ns } where
  le := fun a u h => by
    have dr := ss.drw p hda
    have ne : a ≠ p.2.1 := fun z => by subst z; rw [dr.fg] at h; cases h
    rw [upd_ne ne]; exact ss.le a u h
  drw := fun q hq => by
    rw [hda] at hq
    cases hq
    have dr := ss.drw p hda
    exact ⟨by rw [upd_ne dr.ne]; exact dr.hd, upd_same, dr.hc, dr.ne, dr.fd, dr.fg⟩
theorem psd_drPop (hd : DrSp C.S) (hK : X.K = C.S.K) (hu : X.A.units + 1 < cLine) (i : Nat) (h1 : PE X o (tVar i)) (k1 : PE X e (tVar i)) (hk : κ[i]? ≠ some true)
    (hbase : attributeBase (.Subscript e (.Constant (.str "great") j2 p3) p4) "pop" X.env (eval (.Subscript e (.Constant (.str "great") j2 p3) p4) X.env) = eval (.Subscript e (.Constant (.str "great") j2 p3) p4) X.env := by rfl)
    (hfew : ((backTo p7 (starEach ((.Constant (.int 0) 0 p6) :: []) X.env)).all (fun x => !x.1) && (backToKw p7 (keywordEach [] X.env)).all (fun x => x.1.isSome)
      && decide (((.Constant (.int 0) 0 p6 : Expr) :: []).length + ([] : List Keyword).length + (if ([] : List Keyword).isEmpty then 0 else 1) < 30)) = true := by rfl)
    (hline : (p5.endLine == p7.line) = true := by rfl) (hsa : starEach ((.Constant (.int 0) 0 p6) :: []) X.env = (false, eval (.Constant (.int 0) 0 p6) X.env) :: starEach [] X.env := by rfl) (hplain : (backTo p7 (starEach [] X.env)).any (·.1) = false := by rfl)
    (hsw : swapsWith (.Call (.Attribute (.Subscript e (.Constant (.str "great") j2 p3) p4) "pop" p5) [.Constant (.int 0) 0 p6] [] p7) (some (.Subscript o (.Constant (.str "rest") j p1) p2)) pos.line X.env = pure false := by rfl)
    (hs : NoSl (.Constant (.str "great") j2 p3) := by intro _ _; rfl) :
    PSd X C R κ κ (.Assign [.Subscript o (.Constant (.str "rest") j p1) p2] (.Call (.Attribute (.Subscript e (.Constant (.str "great") j2 p3) p4) "pop" p5) [.Constant (.int 0) 0 p6] [] p7) pos) (drPop i) := by
  refine ⟨_, ps_dput hu h1 pe_str (pe_bm PySem.F.plainAttrs_list PySem.F.slot_list_pop PySem.F.type_list_pop mt_popAt (pe_dget hu k1 pe_str hs) (pa_cons pe_int pa_nil hsa) hbase hfew hline hsa hplain) hsw, fun F0 H0 F H ρ σ s D hs st he hp => ?_⟩
  have hp' : SPost C R κ F0 H0 (DM.bnd (sGet i ρ) (fun d => isDr d >>= fun _ => fun s => match s.great with
    | [] => .bad
    | n :: ns => .ok (.nx ρ) { s with great := ns, rest := n }) s) D := hp
  unfold DM.bnd at hp'
  rcases sGet_cases (i := i) (ρ := ρ) s with ⟨d, hg, e⟩ | e
  · rw [e] at hp'
    obtain ⟨ed, hp2⟩ := isDr_spost hp'
    subst ed
    obtain ⟨v, hσ, rv⟩ := he.dat i _ hk hg
    obtain ⟨p, hda, ev⟩ := RB.drw (H := H) (Hs := H) hd rv
    subst ev
    have dr := hs.drw p hda
    cases hgr : s.great with
    | nil =>
      simp only [hgr] at hp2
      exact (hp2.ok rfl).elim
    | cons n ns =>
      simp only [hgr] at hp2
      have gl := dr.hg
      rw [hgr] at gl
      have s1 := hs.popDr hda hgr
      have sp1 := Stp.put2 (S := C.S) (F := F) (H := H) (o := .lst (ns.map V.int)) hda
      have dr1 := s1.drw p hda
      have s2 := s1.putDr (i := n) drF_rest hda
      have sp2 := Stp.put1 (S := C.S) (F := F) (H := upd H p.2.1 (.lst (ns.map V.int))) (o := .dK (drwK p.2.1 p.2.2 { s with great := ns, rest := n })) hda
      refine ⟨_, hσ, p.1, _, rfl, .inl ⟨_, .inr "great", .inl dr.hd, rfl, rfl⟩, .inl ⟨rfl, _, by rw [hK]; exact .inl (.inl gl)⟩, p.2.1, _, 0, 0, .int n, rfl, rfl, gl, by decide, by decide, ?_, rfl, _, hσ, p.1, _, rfl, .inl ⟨_, .inr "rest", dr1.hd, rfl, by show 4 < sizeLine; rw [sizeLine_eq]; decide, rfl⟩, ?_⟩
      · unfold seqIndex?
        rw [List.length_map, List.length_cons]
        simp
      · exact hp2.nx ρ _ rfl σ F _ s2 ((st.trans sp1).trans sp2) ((he.step sp1).step sp2)
  · rw [e] at hp'; exact (hp'.ok rfl).elim
end
end DL

set_option Elab.async false
set_option autoImplicit false
set_option linter.all false
set_option maxRecDepth 100000
set_option maxHeartbeats 2000000
/-! own errors whose __init__ says super().__init__(p); self.f = p -/
namespace DE
open PySem PySem.W PySem.Calls PyProof.Rows PySem.HandSPX

def eA (fld : Str) (p1 p2 : Pos) : Arguments := { posonlyargs := [], args := [{ arg := "self", annotation := none, pos := p1 }, { arg := fld, annotation := none, pos := p2 }], vararg := none, kwonlyargs := [], kw_defaults := [], kwarg := none, defaults := [] }
def eB (fld : Str) (q : Nat → Pos) : List Stmt := [
  .Expr (.Call (.Attribute (.Call (.Name "super" (q 0)) [] [] (q 1)) "__init__" (q 2)) [.Name fld (q 3)] [] (q 4)) (q 5),
  .Assign [.Attribute (.Name "self" (q 6)) fld (q 7)] (.Name fld (q 8)) (q 9)]
def eS (fld : Str) : Scope := { kind := .function, names := [(PySem.Str.ofString "self", .local), (fld, .local), (PySem.Str.ofString "__class__", .free), (PySem.Str.ofString "super", .globalImplicit)], isGenerator := false, isCoroutine := false, more := [] }
/-- what the written part says of the error's class at C and of its __init__ at fI; cc: the cell of __class__ -/
structure ErrTxt (P : Program) (K : Frag) (fld : Str) (C fI cc : Addr) : Prop where
  cls : ∃ nm q N bs bm sn sub ab col dd k0 k1 k2 k3 k5, K.lookup C = some (excClassObj nm q C N bs bm true sn sub ab col dd k0 k1 k2 k3 k5 "ValueError.__new__") ∧ refsVE bm = true
  sa : findIn K (.ref C) "__setattr__" = some (some (.builtin "object.__setattr__"))
  noN : findIn K (.ref C) fld = some none
  iC : findIn K (.ref C) "__init__" = some (some (.ref fI))
  tC : typeIn K (.ref fI) = some (.type "function")
  su : ks_superIn K C C "__init__" = some (some (.builtin "ValueError.__init__"))
  sv : subIn K (.ref C) (.type "ValueError") = some true
  mC : mroIn K C (.ref C) = some true
  cell : ∃ (cl : Value) (cld : Option Addr) (csl : Array (Option Value)), K.lookup cc = some ⟨cl, cld, .cell (some (.ref C)), csl⟩
  third : nsIn K cStatics "thirdparty.any" = some none
  gs : nsIn K mainGlobals "super" = some none
  fn : ∃ (q : Str) (oc : Value) (od : Option Addr) (dV kV doc pm : Value) (an : Option Addr) (cda : Addr) (ct : Value) (osl : Array (Option Value)) (p1 p2 : Pos) (qs : Nat → Pos),
    K.lookup fI = some ⟨oc, od, .func (ksFn "__init__" q (eA fld p1 p2) (eB fld qs) (eS fld) dV kV doc pm an (.ref cda) ct cc), osl⟩ ∧ codeIn K (.ref cda) q = true ∧
    (∃ (ccl : Value) (cdd : Option Addr) (vs : Array Value) (ccs : Array (Option Value)) (file : Str) (tf : Tok), K.lookup cda = some ⟨ccl, cdd, .fields vs, ccs⟩ ∧ vs[2]? = some (.str file tf) ∧ ((P.main.file : Str) == file) = true) ∧
    (∀ a b : Value, bindArgs (ksFn "__init__" q (eA fld p1 p2) (eB fld qs) (eS fld) dV kV doc pm an (.ref cda) ct cc) ⟨[a, b], []⟩ = pure ([(("self" : Str), a), (fld, b)] : List (Str × Value))) ∧
    (∀ a b : Value, bindArgs (ksFn "__init__" q (eA fld p1 p2) (eB fld qs) (eS fld) dV kV doc pm an (.ref cda) ct cc) ⟨[a], [(fld, b)]⟩ = pure ([(("self" : Str), a), (fld, b)] : List (Str × Value))) ∧
    (∀ L : Addr, eval (.Call (.Attribute (.Call (.Name "super" (qs 0)) [] [] (qs 1)) "__init__" (qs 2)) [.Name fld (qs 3)] [] (qs 4)) (ksEnv q (eS fld) L fI (.ref cda) cc) = (do
      let ov ← attributeBase (.Call (.Name "super" (qs 0)) [] [] (qs 1)) "__init__" (ksEnv q (eS fld) L fI (.ref cda) cc) (eval (.Call (.Name "super" (qs 0)) [] [] (qs 1)) (ksEnv q (eS fld) L fI (.ref cda) cc))
      standAt (qs 2).atName
      let (f, first) ← holding [ov] (getMethod ov "__init__" (do return (← importBound (.Call (.Name "super" (qs 0)) [] [] (qs 1)) (ksEnv q (eS fld) L fI (.ref cda) cc)).getD true))
      callWith (qs 4) f first (backTo (qs 4) (starEach [.Name fld (qs 3)] (ksEnv q (eS fld) L fI (.ref cda) cc))) []))
  ptop : (P.main.scope.names.lookup ("super" : Str)).isSome = false
  nf : (("self" : Str) == fld) = false
  nf2 : (fld == ("self" : Str)) = false
  ns1 : (("super" : Str) == fld) = false
  nc1 : (("__class__" : Str) == fld) = false
  ndb : (fld == ("__debug__" : Str)) = false

theorem one_sz (v : Value) : [v].length ≤ sizeLine := by
  rw [sizeLine_eq]
  exact (by decide : 1 ≤ 16777216)
structure InitEnd (h h' : Heap) (x C dx t1 : Addr) (fld : Str) (v : Value) : Prop where
  keep : ∀ b o, b ≠ x → h.get? b = some o → h'.get? b = some o
  obj : h'.get? x = some { cls := .ref C, dict := some dx, data := .fields #[.ref t1, .none, .none, .none, .bool false, .none] }
  dbig : h.objs.size ≤ dx
  dne : dx ≠ x
  ns : h'.Ns1 dx (fun y => if y = fld then some v else none)
  args : h'.get? t1 = some (excTup [v])
  tbig : h.objs.size ≤ t1
  td : t1 < dx
section
variable {prog : Program} {w : World} {A : Around} {E : Value → Shared → Prop} {R : Result → Shared → Prop} {s : Shared} {K : Frag} {mg mb : Str → Option Value} {C fI cc : Addr} {fld : Str}
theorem ldL {M : Model} {A : Around} {E : Value → Shared → Prop} {s : Shared} {env : Env} {m : Str → Option Value} {x : Str} {pos : Pos} {v : Value} {Q : Value → Shared → Prop} (hn : s.heap.Ns env.locals m) (hv : m x = some v) (h : Q v s)
    (hk : env.scope.kind = .function) (hl : env.kindOf x = some .local) (hd : (x == ("__debug__" : Str)) = false) : wpAny M A (eval (.Name x pos) env) Q E s := wpAny_Name (wpAny_loadName_local hk hl hn hv h) hd
theorem err_init (T : ErrTxt prog K fld C fI cc) {x t0 : Addr} {v : Value} {ar : Args} (har : ar = ⟨[.ref x, v], []⟩ ∨ ar = ⟨[.ref x], [(fld, v)]⟩) (X : K.In s.heap) (G : s.heap.Ns mainGlobals mg) (B : s.heap.Ns builtinsNs mb) (hB : ∀ y : Str, y ≠ "__name__" → mb y = bootBuiltins y) (hlim : s.heap.NoLimit) (hnx : K.lookup x = none) (hx : s.heap.get? x = some (excO C t0)) (hroom : A.depth < recursionLimit)
    (hq : ∀ h' tk dx t1, InitEnd s.heap h' x C dx t1 fld v → R (.ok (.ret .none)) { s with heap := h', toks := tk }) :
    codeAny (model prog w) A (.call (.ref fI) ar) R s := by
  obtain ⟨q, oc, od, dV, kV, doc, pm, an, cda, ct, osl, p1, p2, qs, ho, hcd, ⟨ccl, cdd, vs, ccs, file, tf, hcode, hvs, hfile⟩, hbind, hbindK, hev⟩ := T.fn
  obtain ⟨nm, qn, N, bs, bm, sn, sub, ab, col, dd, k0, k1, k2, k3, k5, hC, hbm⟩ := T.cls
  obtain ⟨cl, cld, csl, hcell⟩ := T.cell
  have hcl : clsIn K C = some { name := nm, bases := bs, mro := .ref C :: bm, ns := N, qualname := qn, hasDict := true, slotNames := sn, subclasses := sub, abstract := ab, collection := col, hasDel := false } := by unfold clsIn; rw [hC] <;> rfl
  have Sf : (eS fld).names.lookup ("self" : Str) = some .local := by simp [eS, List.lookup]
  have Sp : (eS fld).names.lookup fld = some .local := by
    have := T.nf2
    simp [eS, List.lookup, this]
  have Su : (eS fld).names.lookup ("super" : Str) = some .globalImplicit := by
    have e1 := T.ns1
    have e2 : ((Str.ofString "super") == (Str.ofString "self")) = false := by decide
    have e3 : ((Str.ofString "super") == (Str.ofString "__class__")) = false := by decide
    simp only [eS, List.lookup, e1, e2, e3]
    simp
  have Sc : (eS fld).names.lookup ("__class__" : Str) = some .free := by
    have e1 := T.nc1
    have e2 : ((Str.ofString "__class__") == (Str.ofString "self")) = false := by decide
    simp only [eS, List.lookup, e1, e2]
    simp
  refine ks_codeAny_call_defAt (fd := ksFn "__init__" q (eA fld p1 p2) (eB fld qs) (eS fld) dV kV doc pm an (.ref cda) ct cc) (body := eB fld qs) (binds := ([(("self" : Str), .ref x), (fld, v)] : List (Str × Value))) hroom (X _ _ ho) rfl hlim (codeRec_of X hcd) rfl (.of_eq (har.elim (fun e => e ▸ hbind _ _) fun e => e ▸ hbindK _ _)) (fun y hy => by simp only [ksFn, fnX, eS, List.mem_cons, List.not_mem_nil, or_false] at hy; rcases hy with rfl | rfl | rfl | rfl <;> exact fun z => nomatch z) (fun y hy => ?_) (fun h₁ hns k₁ => ?_) rfl rfl rfl
  · rcases List.mem_cons.mp hy with rfl | hy
    · exact Sf
    · obtain rfl := List.mem_singleton.mp hy
      exact Sp
  have hself : (fun y => List.lookup y ([("self", Value.ref x), (fld, v)] : List (Str × Value)).reverse) ("self" : Str) = some (.ref x) := by
    have e1 := T.nf
    simp [List.lookup, e1]
  have hpar : (fun y => List.lookup y ([("self", Value.ref x), (fld, v)] : List (Str × Value)).reverse) fld = some v := by simp [List.lookup]
  have X₁ : K.In h₁ := X.keeps k₁
  have hx₁ := k₁ _ _ hx
  show _root_.PySem.wpAt _ _ _ (execs (eB fld qs) (ksEnv q (eS fld) s.heap.objs.size fI (.ref cda) cc)) _ _ _
  have hC₁ := X₁ _ _ hC
  refine ks_wpAt_execs_cons (ks_wpAt_Expr_any (ks_wpAt_MethodCall (pl := (do return (← importBound (.Call (.Name "super" (qs 0)) [] [] (qs 1)) (ksEnv q (eS fld) s.heap.objs.size fI (.ref cda) cc)).getD true)) ?main ?he) rfl ?sw)
  case he => exact hev _
  case sw => rfl
  obtain ⟨hh, g, d, t, os⟩ := s
  refine ks_wpAt_super_base (env := ksEnv q (eS fld) hh.objs.size fI (.ref cda) cc) Su Sc (by decide +kernel) rfl (X₁ _ _ ho) rfl rfl rfl (X₁ _ _ hcode) rfl hvs hfile T.ptop ?_
  refine ks_loadName_global rfl Su (loadGlobal_builtin (env := ksEnv q (eS fld) hh.objs.size fI (.ref cda) cc) (G.keeps k₁) (mg_none_of X G T.gs) (B.keeps k₁) ((hB _ (by decide +kernel)).trans (by decide +kernel : bootBuiltins "super" = some (.type "super"))) ⟨rfl, ?_⟩)
  refine wpAny_loadName_free rfl Sc rfl ⟨_, X₁ _ _ hcell, rfl⟩ ?_
  refine wpAny_loadName_local rfl Sf hns hself ?_
  refine ks_wpAny_isType_cls hC₁ rfl ⟨rfl, ?_⟩
  refine ks_wpAny_call_super hC₁ rfl hx₁ rfl (fun c e => nomatch e) (looks_mroIn X₁ T.mC) (fun h₂ hso k₂ => ?_)
  have X₂ : K.In h₂ := X₁.keeps k₂
  have hx₂ := k₂ _ _ hx₁
  have hxC : x ≠ C := fun z => by subst z; rw [X _ _ hC] at hx; cases hx
  have I₂ : InstAt h₂ x (excO C t0) C none := ⟨hx₂, rfl, rfl, trivial⟩
  have hsu : alongIn K "__init__" (((Value.ref C :: bm).dropWhile (· != .ref C)).drop 1) = some (some (.builtin "ValueError.__init__")) := by
    have e := T.su
    unfold ks_superIn at e
    rw [hcl, Option.bind_some] at e
    exact e
  refine kxs_getMethod kxs_ValueError hso (looks_opaque X₂ T.third) (l₀ := Value.ref C :: bm) (fun A Q E s k q => wpAny_bind ((looks_clsIn X₂ hcl) A _ E s k (wpAny_pure q))) rfl X₂ hsu (I₂.type.andThen (looks_subIn X₂ T.sv)) hxC (by decide +kernel) ?_
  -- the wrapper u is called with the parameter
  have k₃ : ∀ b o, h₂.get? b = some o → (h₂.push (kxs_mw "ValueError.__init__" x)).get? b = some o := fun b o e => Heap.get?_push_of_some _ e
  have hns₃ : (h₂.push (kxs_mw "ValueError.__init__" x)).Ns hh.objs.size (fun y => List.lookup y ([(("self" : Str), Value.ref x), (fld, v)] : List (Str × Value)).reverse) := (hns.keeps k₂).keeps k₃
  have hu : (h₂.push (kxs_mw "ValueError.__init__" x)).get? h₂.objs.size = some (kxs_mw "ValueError.__init__" x) := Heap.get?_push_at rfl rfl
  refine kxs_callWith (i := "ValueError.__init__") (x := x) (by rfl) (evalArgs_plain ?_)
  refine Calls.spliced_cons (ldL (m := fun y => List.lookup y ([(("self" : Str), Value.ref x), (fld, v)] : List (Str × Value)).reverse) hns₃ hpar (Calls.spliced_nil ⟨hu, ?_⟩) rfl Sp T.ndb)
  -- __init__ of the base runs
  refine wpAny_call (codeAny_of_tree ?_)
  show wpAny _ _ (callAny (.ref h₂.objs.size) ⟨[v], []⟩) _ _ _
  simp only [callAny]
  refine wpAny_bind (wpAny_load hu ?_)
  simp only [kxs_mw, show (Value.type "method-wrapper" == Value.type "method" || Value.type "method-wrapper" == Value.type "builtin_function_or_method" || Value.type "method-wrapper" == Value.type "method-wrapper") = true by decide, if_true]
  refine KFB.if_so (by decide) ?_
  have FB := F.excBase_ValueError
  have X₃ : K.In (h₂.push (kxs_mw "ValueError.__init__" x)) := X₂.keeps k₃
  have hx₃ := k₃ _ _ hx₂
  refine wpAny_bind (check_bound_init FB.toExcCallFacts (X₃ _ _ hC) hx₃ rfl ?_)
  refine wpAny_bind (wpAny_pure (wpAny_pure ?_))
  refine ⟨plainId_quiet FB.init.plain _, codeAny_builtin FB.initEntry ?_⟩
  refine exc_init_tree (cls := .ref C) (t0 := t0) (dv := none) (c2 := .none) (c3 := .none) (b4 := .bool false) hx₃ (one_sz v) fun h₄ k₄ hx₄ ht₄ => ?_
  refine wpAt_of_any ?_
  have X₄ : K.In h₄ := fun a o e => k₄ a o (fun z => by rw [z, hnx] at e; cases e) (X₃ a o e)
  have hns₄ : h₄.Ns hh.objs.size (fun y => List.lookup y ([(("self" : Str), Value.ref x), (fld, v)] : List (Str × Value)).reverse) := by
    obtain ⟨o, es, ep, e1, r⟩ := hns₃
    exact ⟨o, es, ep, k₄ _ _ (Nat.ne_of_gt (Heap.lt_size hx)) e1, r⟩
  refine wpAny_execs_cons (plainObj_wpAny_Assign_Attribute ?_)
  refine ldL hns₄ hpar (ldL hns₄ hself ?_ rfl Sf (by decide)) rfl Sp T.ndb
  refine set_plain X₄ (ox := excO C (h₂.push (kxs_mw "ValueError.__init__" x)).objs.size) (od := none) ⟨hx₄, rfl, rfl, trivial⟩ T.sa ?_
  refine exc_osa X₄ hx₄ hcl (show refsVE (.ref C :: bm) = true from hbm) rfl T.noN (fun h₅ tk₅ dx k₅ dn dne hx₅ hn₅ => ?_)
  show wpAny _ _ (execs _ _) _ _ _
  have sz₂ : hh.objs.size < h₂.objs.size := (hns.keeps k₂).lt
  have sz₃ : h₂.objs.size < (h₂.push (kxs_mw "ValueError.__init__" x)).objs.size := Heap.lt_size hu
  have sz₄ : (h₂.push (kxs_mw "ValueError.__init__" x)).objs.size < h₄.objs.size := Heap.lt_size ht₄
  have ex : x < hh.objs.size := Heap.lt_size hx
  refine wpAny_execs_nil (hq h₅ tk₅ dx (h₂.push (kxs_mw "ValueError.__init__" x)).objs.size ⟨fun b o hb e => k₅ b o hb (k₄ b o hb (k₃ b o (k₂ b o (k₁ b o e)))), hx₅, ?_, dne, hn₅, k₅ _ _ ?_ ht₄, Nat.le_of_lt (Nat.lt_trans sz₂ sz₃), Nat.lt_of_lt_of_le sz₄ dn⟩)
  · have dn' : h₄.objs.size ≤ dx := dn
    show hh.objs.size ≤ dx
    exact Nat.le_of_lt (Nat.lt_of_lt_of_le (Nat.lt_trans (Nat.lt_trans sz₂ sz₃) sz₄) dn')
  · exact Nat.ne_of_gt (Nat.lt_trans ex (Nat.lt_trans sz₂ sz₃))
end
end DE

set_option Elab.async false
set_option autoImplicit false
set_option linter.all false
set_option maxRecDepth 100000
set_option maxHeartbeats 2000000
/-! own errors made by keyword; both ways as one -/
namespace DE
open PySem PySem.W PySem.Calls PyProof.Rows PySem.HandSPX

abbrev veF : ExcBaseFacts "ValueError" "ValueError.__new__" "ValueError.__init__" veTail := F.excBase_ValueError
section
variable {prog : Program} {w : World} {M : Model} {A : Around} {E : Value → Shared → Prop} {R : Result → Shared → Prop} {h : Heap} {g : Array GenState} {d : Drawn} {t : Nat} {os : OsState}
variable {nm q : Str} {C N : Addr} {bs bm : List Value} {sn : List Str} {sub : List Value} {ab : Bool} {col : Option Bool} {dd : Option Addr} {k0 k1 k2 k3 k5 : Option Value}
abbrev excK (nm q : Str) (C N : Addr) (bs bm : List Value) (sn : List Str) (sub : List Value) (ab : Bool) (col : Option Bool) (dd : Option Addr) (k0 k1 k2 k3 k5 : Option Value) : Obj := excClassObj nm q C N bs bm true sn sub ab col dd k0 k1 k2 k3 k5 "ValueError.__new__"

theorem chk_new (hb : refsVE bm = true) {ps : List Value} {kw : List (Str × Value)} {Q : Unit → Shared → Prop} (hC : h.get? C = some (excK nm q C N bs bm sn sub ab col dd k0 k1 k2 k3 k5)) (hq : Q () ⟨h, g, d, t, os⟩) :
    wpAny M A (checkBuiltinCall "ValueError.__new__" ⟨.ref C :: ps, kw⟩) Q E ⟨h, g, d, t, os⟩ := by
  have z1 : (Value.ref C :: bm).contains (.type "ValueError") = true := by
    rw [List.contains_cons, refsVE_contains _ bm hb]
    rfl
  have z2 := veF.noStar
  simp only [checkBuiltinCall, veF.newKind, veF.newSplit, veF.newRow]
  repeat (first
    | refine wpAny_loadPart_at hC ?_
    | (refine wpAny_isSubtype_exc hC ?_
       rw [z1])
    | refine wpAny_staticBase_exc hC ?_
    | refine wpAny_madeBy_exc hC ?_
    | simp only [bne_self_eq_false, Bool.false_eq_true, if_false]
    | wp_step)
  exact hq
theorem new_kw (hb : refsVE bm = true) {ps : List Value} {kw : List (Str × Value)} (hC : h.get? C = some (excK nm q C N bs bm sn sub ab col dd k0 k1 k2 k3 k5)) (hl : ps.length ≤ sizeLine)
    (hq : R (.ok (.ret (.ref (h.objs.size + 1)))) ⟨(h.push (kdv_tup ps)).push (excO C h.objs.size), g, d, t, os⟩) :
    codeAny (model prog w) A (.builtin "ValueError.__new__" ⟨.ref C :: ps, kw⟩) R ⟨h, g, d, t, os⟩ := by
  have z0 := veF.ends
  have z1 : (Value.ref C :: bm).contains (.type "ValueError") = true := by
    rw [List.contains_cons, refsVE_contains _ bm hb]
    rfl
  have z2 : (Value.ref C :: bm).contains (.type "AttributeError") = false := by
    rw [List.contains_cons, refsVE_contains _ bm hb]
    rfl
  have z3 : (Value.ref C :: bm).contains (.type "NameError") = false := by
    rw [List.contains_cons, refsVE_contains _ bm hb]
    rfl
  refine codeAny_builtinAt veF.entry ?_
  unfold Builtin.«BaseException.__new__»
  refine PySem.wpAt_bind ?_
  show _root_.PySem.wpAt _ _ _ (stack >>= _) _ _ _
  refine PySem.wpAt_bind (PySem.wpAt_stack fun p below => PySem.wpAt_of_wpAny ?_)
  wp_walk
  refine PySem.wpAt_of_wpAny ?_
  rw [veF.owner]
  repeat (first
    | with_reducible refine wpAny_madeHere_exc veF.canon hC ?_
    | with_reducible refine wpAny_loadPart_at hC ?_
    | (with_reducible refine wpAny_isSubtype_exc hC ?_
       first
         | rw [z1]
         | rw [z2]
         | rw [z3])
    | wp_step)
  show R _ _
  rw [Heap.size_push]
  exact hq
theorem ty_call_kw (hb : refsVE bm = true) {ps : List Value} {kw : List (Str × Value)} {fI : Addr} {Q : Fin → Shared → Prop} (hC : h.get? C = some (excK nm q C N bs bm sn sub ab col dd k0 k1 k2 k3 k5))
    (hi : Looks (model prog w) h (typeLookup (.ref C) "__init__") (some (.ref fI))) (hbi : ∀ self, Looks (model prog w) h (bindSpecial (.ref fI) self) (.ref fI, [self])) (hl : ps.length ≤ sizeLine)
    (hq : codeAny (model prog w) A (.call (.ref fI) ⟨.ref (h.objs.size + 1) :: ps, kw⟩)
      (fun r s' => match r with
        | .ok (.ret v) => v = .none ∧ Q (.done (.ret (.ref (h.objs.size + 1)))) s'
        | .ok _ => False
        | .error e => E e s')
      ⟨(h.push (kdv_tup ps)).push (excO C h.objs.size), g, d, t, os⟩) :
    wpAny (model prog w) A (Builtin.«type.__call__» ⟨.ref C :: ps, kw⟩) Q E ⟨h, g, d, t, os⟩ := by
  repeat (first
    | with_reducible refine wpAny_loadPart_at hC ?_
    | with_reducible refine wpAny_madeBy_exc hC ?_
    | wp_step)
  refine codeAny_call_builtin_code (Code.quiet_builtin _ veF.quiet) (chk_new hb hC ?_)
  refine new_kw hb hC hl ?_
  show wpAny _ _ _ _ _ _
  have k : ∀ b o, h.get? b = some o → ((h.push (kdv_tup ps)).push (excO C h.objs.size)).get? b = some o := fun b o e => by
    exact Heap.get?_push_of_some _ (Heap.get?_push_of_some _ e)
  have hC₁ := k _ _ hC
  have hget : ((h.push (kdv_tup ps)).push (excO C h.objs.size)).get? (h.objs.size + 1) = some (excO C h.objs.size) := by
    heap_get
  have hcC : (Value.ref C :: bm).contains (.ref C) = true := by simp
  have i1 := hi.keeps k
  have b1 := (hbi (.ref (h.objs.size + 1))).keeps k
  unfold isInstance
  repeat (first
    | with_reducible refine wpAny_loadPart_at hget ?_
    | (with_reducible refine wpAny_isSubtype_exc hC₁ ?_
       rw [hcC])
    | wp_step)
  show wpAny _ _ (typeLookup (.ref C) _) _ _ _
  refine i1.at ?_
  refine wpAny_holding (wpAny_bind (b1.at ?_))
  refine wpAny_bind (wpAny_call (codeAny_mono hq fun r s' z => ?_))
  rcases r with e | (_ | _ | _ | v)
  · exact z
  · exact z.elim
  · exact z.elim
  · exact z.elim
  · obtain ⟨ev, z⟩ := z
    subst ev
    first
      | exact wpAny_pure (wpAny_pure z)
      | (wp_walk
         exact z)
theorem call_kw (hb : refsVE bm = true) {ps : List Value} {kw : List (Str × Value)} {fI : Addr} (hC : h.get? C = some (excK nm q C N bs bm sn sub ab col dd k0 k1 k2 k3 k5))
    (hi : Looks (model prog w) h (typeLookup (.ref C) "__init__") (some (.ref fI))) (hbi : ∀ self, Looks (model prog w) h (bindSpecial (.ref fI) self) (.ref fI, [self])) (hl : ps.length ≤ sizeLine)
    (hq : codeAny (model prog w) (A.under (.builtin "type.__call__" ⟨.ref C :: ps, kw⟩)) (.call (.ref fI) ⟨.ref (h.objs.size + 1) :: ps, kw⟩) (InitBack (h.objs.size + 1) R) ⟨(h.push (kdv_tup ps)).push (excO C h.objs.size), g, d, t, os⟩) :
    codeAny (model prog w) A (.call (.ref C) ⟨ps, kw⟩) R ⟨h, g, d, t, os⟩ := by
  have f1 := tc_lookup
  have f2 := tc_bind (.ref C)
  have hTy : (⟨h, g, d, t, os⟩ : Shared).TypeIs (.ref C) "type" := ⟨_, hC, rfl⟩
  refine codeAny_of_tree ?_
  show wpAny _ _ (callAny (.ref C) _) _ _ _
  repeat (any_goals (first
    | assumption
    | with_reducible refine wpAny_loadPart_at hC ?_
    | wp_step))
  refine ⟨rfl, ?_⟩
  refine codeAny_call_builtin_at (Code.quiet_builtin _ (by decide +kernel)) entry_typeCall (wpAny_check_type_call_sub hC (ty_call_kw hb hC hi hbi hl ?_))
  refine codeAny_mono hq fun r s' z => ?_
  rcases r with e | (_ | _ | _ | v)
  · exact z
  · exact z
  · exact z
  · exact z
  · exact z
end
/-- a made error with its field -/
structure ErrMade (h h' : Heap) (e C dx t1 : Addr) (fld : Str) (v : Value) : Prop where
  keep : ∀ b o, h.get? b = some o → h'.get? b = some o
  obj : h'.get? e = some { cls := .ref C, dict := some dx, data := .fields #[.ref t1, .none, .none, .none, .bool false, .none] }
  ebig : h.objs.size ≤ e
  dbig : h.objs.size ≤ dx
  tbig : h.objs.size ≤ t1
  de : dx ≠ e
  te : t1 ≠ e
  td : t1 ≠ dx
  ns : h'.Ns1 dx (fun y => if y = fld then some v else none)
  args : h'.get? t1 = some (excTup [v])
section
variable {prog : Program} {w : World} {A : Around} {R : Result → Shared → Prop} {s : Shared} {K : Frag} {mg mb : Str → Option Value} {C fI cc : Addr} {fld : Str}
theorem err_made (T : ErrTxt prog K fld C fI cc) {v : Value} {ar : Args} (har : ar = ⟨[v], []⟩ ∨ ar = ⟨[], [(fld, v)]⟩) (X : K.In s.heap) (G : s.heap.Ns mainGlobals mg) (B : s.heap.Ns builtinsNs mb) (hB : ∀ y : Str, y ≠ "__name__" → mb y = bootBuiltins y)
    (hlim : s.heap.NoLimit) (hroom : A.depth + 1 < recursionLimit) (hq : ∀ h' tk e dx t1, ErrMade s.heap h' e C dx t1 fld v → R (.ok (.ret (.ref e))) { s with heap := h', toks := tk }) :
    codeAny (model prog w) A (.call (.ref C) ar) R s := by
  obtain ⟨nm, q, N, bs, bm, sn, sub, ab, col, dd, k0, k1, k2, k3, k5, hC, hbm⟩ := T.cls
  obtain ⟨ps, kw, rfl, har', hl⟩ : ∃ ps kw, ar = ⟨ps, kw⟩ ∧ (∀ x : Value, (⟨x :: ps, kw⟩ : Args) = ⟨[x, v], []⟩ ∨ (⟨x :: ps, kw⟩ : Args) = ⟨[x], [(fld, v)]⟩) ∧ ps.length ≤ sizeLine := by
    rcases har with rfl | rfl
    · exact ⟨_, _, rfl, fun x => .inl rfl, one_sz v⟩
    · exact ⟨_, _, rfl, fun x => .inr rfl, Nat.zero_le _⟩
  obtain ⟨hp, g, dr, tk, os⟩ := s
  have k : ∀ b o, hp.get? b = some o → ((hp.push (kdv_tup ps)).push (excO C hp.objs.size)).get? b = some o := fun b o e => Heap.get?_push_of_some _ (Heap.get?_push_of_some _ e)
  have hget : ((hp.push (kdv_tup ps)).push (excO C hp.objs.size)).get? (hp.objs.size + 1) = some (excO C hp.objs.size) := by heap_get
  have hnx : K.lookup (hp.objs.size + 1) = none := by
    cases e : K.lookup (hp.objs.size + 1) with
    | none => rfl
    | some o =>
      have z : hp.get? (hp.objs.size + 1) = some o := X _ _ e
      exact absurd (Nat.lt_of_succ_lt (Heap.lt_size z)) (Nat.lt_irrefl _)
  refine call_kw hbm (X _ _ hC) (looks_findIn X T.iC) (fun self => bind_fn X self T.tC) hl ?_
  have sz : ((hp.push (kdv_tup ps)).push (excO C hp.objs.size)).objs.size = hp.objs.size + 2 := by rw [Heap.size_push, Heap.size_push]
  refine err_init (s := ⟨(hp.push (kdv_tup ps)).push (excO C hp.objs.size), g, dr, tk, os⟩) T (har' _) (X.keeps k) (G.keeps k) (B.keeps k) hB (hlim.keeps k) hnx hget hroom fun h' tk' dx t1 I => ?_
  have old : ∀ b o, hp.get? b = some o → h'.get? b = some o := fun b o e => I.keep b o (Nat.ne_of_lt (Nat.lt_succ_of_lt (Heap.lt_size e))) (k b o e)
  have d1 := I.dbig
  have d2 : ((hp.push (kdv_tup ps)).push (excO C hp.objs.size)).objs.size ≤ dx := d1
  rw [sz] at d2
  have t2 : ((hp.push (kdv_tup ps)).push (excO C hp.objs.size)).objs.size ≤ t1 := I.tbig
  rw [sz] at t2
  refine ⟨rfl, hq h' tk' _ dx t1 ⟨old, I.obj, Nat.le_succ _, Nat.le_trans (Nat.le_add_right _ 2) d2, Nat.le_trans (Nat.le_add_right _ 2) t2, I.dne, Nat.ne_of_gt t2, Nat.ne_of_lt I.td, I.ns, I.args⟩⟩
end
end DE

set_option Elab.async false
set_option autoImplicit false
set_option linter.all false
set_option maxRecDepth 100000
set_option maxHeartbeats 2000000
/-! errors as values -/
namespace DL
open PySem PySem.Spec PyProof.Rows L2

structure ErrC where
  nm : Str
  C : Addr
  fld : Option Str
def S0 (K : PySem.W.Frag) : Sig := ⟨K, none, fun _ _ _ => False, fun _ h => h.elim⟩
/-- an error object of the class C at e, its args at t, its dict at dx -/
def ExA (C : Addr) (dx : Option Addr) (t e : Addr) : HO := .ext fun h => ∃ (oe : Obj) (vs : Array Value), h.get? e = some oe ∧ Zc (.ref C) dx oe ∧ oe.data = .fields vs ∧ vs[0]? = some (.ref t) ∧ vs[1]? = some .none ∧ vs[2]? = some .none ∧ 4 < vs.size
theorem exA_ok {P : Program} {w : World} {H : Hp} {h : Heap} {C e t : Addr} {dx : Option Addr} {oe : Obj} {vs : Array Value} (q : h.get? e = some oe) (z : Zc (.ref C) dx oe) (d : oe.data = .fields vs) (h0 : vs[0]? = some (.ref t)) (h1 : vs[1]? = some .none) (h2 : vs[2]? = some .none) (h5 : 4 < vs.size) :
    ObjOk P w H h e (ExA C dx t e) := ⟨⟨oe, vs, q, z, d, h0, h1, h2, h5⟩, ⟨oe, q⟩, fun _ _ ⟨o, v, q, r⟩ k => ⟨o, v, k o q, r⟩⟩
structure ErrAt (K : PySem.W.Frag) (F : Hp) (c : ErrC) (e : Addr) (arg : PyData) : Prop where
  ex : ∃ (t : Addr) (v : V) (dx : Option Addr), Rd F t (.tup [v]) ∧ Rp (S0 K) F v arg ∧ Rd F e (ExA c.C dx t e) ∧ ((c.fld = none ∧ dx = none) ∨ ∃ f d, c.fld = some f ∧ dx = some d ∧ Rd F d (.xd [(f, v)]))
theorem ErrAt.mono {K : PySem.W.Frag} {F F' : Hp} {c : ErrC} {e : Addr} {arg : PyData} (h : rle F F') (x : ErrAt K F c e arg) : ErrAt K F' c e arg := by
  obtain ⟨t, v, dx, h1, h2, h3, h4⟩ := x.ex
  refine ⟨t, v, dx, h _ _ (fun _ _ z => nomatch z) h1, Rp.mono h _ _ h2, h _ _ (fun _ _ z => nomatch z) h3, ?_⟩
  rcases h4 with h4 | ⟨f, d, e1, e2, h4⟩
  · exact .inl h4
  · exact .inr ⟨f, d, e1, e2, h _ _ (fun _ _ z => nomatch z) h4⟩
def errD (nm : Str) (arg : PyData) : PyData := .tuple [.str nm, arg]
def EsSp (K : PySem.W.Frag) (Es : List ErrC) (F : Hp) (v : V) (p : PyData) : Prop := ∃ c arg e, c ∈ Es ∧ p = errD c.nm arg ∧ v = .ref e ∧ ErrAt K F c e arg
theorem EsSp.mono {K : PySem.W.Frag} {Es : List ErrC} {F F' : Hp} {v : V} {p : PyData} (h : rle F F') (x : EsSp K Es F v p) : EsSp K Es F' v p := by
  obtain ⟨c, arg, e, h1, h2, h3, h4⟩ := x
  exact ⟨c, arg, e, h1, h2, h3, h4.mono h⟩
mutual
theorem Rp.s0 {S : Sig} {F : Hp} : ∀ (d : PyData) (v : V), d.plain = true → Rp S F v d → Rp (S0 S.K) F v d
  | .none, _, _, r => by cases r; exact .non
  | .bool _, _, _, r => by cases r; exact .bl _
  | .int _, _, _, r => by cases r; exact .int _
  | .str _, _, _, r => by cases r; exact .str _
  | .list ds, _, p, r => by
    cases r with
    | lst h1 h2 => exact .lst h1 (RpAll.s0 ds _ (by simpa only [PyData.plain] using p) h2)
  | .tuple ds, _, p, r => by
    cases r with
    | tup h1 h2 => exact .tup h1 (RpAll.s0 ds _ (by simpa only [PyData.plain] using p) h2)
  | .dict ds, _, p, r => by simp [PyData.plain] at p
theorem RpAll.s0 {S : Sig} {F : Hp} : ∀ (ds : List PyData) (vs : List V), PyData.plainAll ds = true → RpAll S F vs ds → RpAll (S0 S.K) F vs ds
  | [], _, _, r => by cases r; exact .nil
  | d :: ds, _, p, r => by
    cases r with
    | cons h1 h2 =>
      have q : d.plain = true ∧ PyData.plainAll ds = true := by simpa only [PyData.plainAll, Bool.and_eq_true] using p
      exact .cons (Rp.s0 d _ q.1 h1) (RpAll.s0 ds _ q.2 h2)
end
mutual
theorem Rp.of0 {S : Sig} {F : Hp} : ∀ (d : PyData) (v : V), Rp (S0 S.K) F v d → Rp S F v d
  | .none, _, r => by cases r; exact .non
  | .bool _, _, r => by cases r; exact .bl _
  | .int _, _, r => by cases r; exact .int _
  | .str _, _, r => by cases r; exact .str _
  | .list ds, _, r => by
    cases r with
    | lst h1 h2 => exact .lst h1 (RpAll.of0 ds _ h2)
  | .tuple ds, _, r => by
    cases r with
    | tup h1 h2 => exact .tup h1 (RpAll.of0 ds _ h2)
  | .dict ds, _, r => by
    cases r with
    | dK h1 h2 => exact .dK h1 (RpKs.of0 ds _ h2)
    | dT h1 h2 => exact .dT h1 (RpTs.of0 ds _ h2)
    | spc h1 => exact False.elim h1
theorem RpAll.of0 {S : Sig} {F : Hp} : ∀ (ds : List PyData) (vs : List V), RpAll (S0 S.K) F vs ds → RpAll S F vs ds
  | [], _, r => by cases r; exact .nil
  | d :: ds, _, r => by
    cases r with
    | cons h1 h2 => exact .cons (Rp.of0 d _ h1) (RpAll.of0 ds _ h2)
theorem RpKs.of0 {S : Sig} {F : Hp} : ∀ (ds : List (PyData × PyData)) (vs : List (Key × V)), RpKs (S0 S.K) F vs ds → RpKs S F vs ds
  | [], _, r => by cases r; exact .nil
  | (_, d) :: ds, _, r => by
    cases r with
    | cons h1 h2 => exact .cons (Rp.of0 d _ h1) (RpKs.of0 ds _ h2)
theorem RpTs.of0 {S : Sig} {F : Hp} : ∀ (ds : List (PyData × PyData)) (vs : List (List Key × V)), RpTs (S0 S.K) F vs ds → RpTs S F vs ds
  | [], _, r => by cases r; exact .nil
  | (_, d) :: ds, _, r => by
    cases r with
    | cons h1 h2 => exact .cons (Rp.of0 d _ h1) (RpTs.of0 ds _ h2)
end

/-! ### laying -/
section
variable {X : Cx} {pins : List (Addr × Obj)} {σ : L2.St} {H : Hp} {s : Shared} {h' : Heap} {a b c : Addr} {oa ob oc : HO}
theorem Inv.laid2 {tk : Nat} (I : Inv X pins σ H s) (k : ∀ x o, s.heap.get? x = some o → h'.get? x = some o) (ha : s.heap.get? a = none) (hb : s.heap.get? b = none) (na : H a = none) (nb : H b = none) (ab : b ≠ a)
    (wa : ∀ G : Heap, G.get? a = h'.get? a → ObjOk X.prog X.w (upd H a oa) G a oa) (wb : ObjOk X.prog X.w (upd (upd H a oa) b ob) h' b ob) : Inv X pins σ (upd (upd H a oa) b ob) { s with heap := h', toks := tk } := by
  obtain ⟨G, g1, g2⟩ := restrict h' fun x => decide (x ≠ b)
  have gk : ∀ x, x ≠ b → G.get? x = h'.get? x := fun x hx => g1 x (decide_eq_true hx)
  have gb : G.get? b = none := g2 b (by simp)
  have I1 : Inv X pins σ (upd H a oa) { s with heap := G, toks := tk } := I.laidN (fun x o e => (gk x (fun z => by rw [z, hb] at e; cases e)).trans (k x o e)) ha na (wa G (gk a (Ne.symm ab)))
  refine I1.laidN (fun x o e => ?_) gb (by rw [upd_ne ab]; exact nb) wb
  have e' : G.get? x = some o := e
  by_cases hx : x = b
  · rw [hx, gb] at e'; cases e'
  · rw [← gk x hx]; exact e'
theorem Inv.laid3 {tk : Nat} (I : Inv X pins σ H s) (k : ∀ x o, s.heap.get? x = some o → h'.get? x = some o) (ha : s.heap.get? a = none) (hb : s.heap.get? b = none) (hc : s.heap.get? c = none) (na : H a = none) (nb : H b = none) (nc : H c = none) (ab : b ≠ a) (ac : c ≠ a) (bc : c ≠ b)
    (wa : ∀ G : Heap, G.get? a = h'.get? a → ObjOk X.prog X.w (upd H a oa) G a oa) (wb : ∀ G : Heap, G.get? b = h'.get? b → ObjOk X.prog X.w (upd (upd H a oa) b ob) G b ob) (wc : ObjOk X.prog X.w (upd (upd (upd H a oa) b ob) c oc) h' c oc) :
    Inv X pins σ (upd (upd (upd H a oa) b ob) c oc) { s with heap := h', toks := tk } := by
  obtain ⟨G, g1, g2⟩ := restrict h' fun x => decide (x ≠ c)
  have gk : ∀ x, x ≠ c → G.get? x = h'.get? x := fun x hx => g1 x (decide_eq_true hx)
  have gc : G.get? c = none := g2 c (by simp)
  have I1 : Inv X pins σ (upd (upd H a oa) b ob) { s with heap := G, toks := tk } := Inv.laid2 I (fun x o e => (gk x (fun z => by rw [z, hc] at e; cases e)).trans (k x o e)) ha hb na nb ab
    (fun G' e => wa G' (e.trans (gk a (Ne.symm ac)))) (wb G (gk b (Ne.symm bc)))
  refine I1.laidN (fun x o e => ?_) gc (by rw [upd_ne bc, upd_ne ac]; exact nc) wc
  have e' : G.get? x = some o := e
  by_cases hx : x = c
  · rw [hx, gc] at e'; cases e'
  · rw [← gk x hx]; exact e'
end

/-! ### made -/
structure BaseTxt (K : PySem.W.Frag) (C : Addr) : Prop where
  cls : ∃ nm q N bs bm sn sub ab col dd k0 k1 k2 k3 k5, K.lookup C = some (excClassObj nm q C N bs bm true sn sub ab col dd k0 k1 k2 k3 k5 "ValueError.__new__") ∧ PySem.HandSPX.refsVE bm = true
  iC : PySem.W.findIn K (.ref C) "__init__" = some (some (.builtin "ValueError.__init__"))
def tMkB (C : Addr) (ta : TE) : TE := fun σ H Q => ta σ H fun v H1 => ∀ t e, H1 t = none → H1 e = none → e ≠ t → Q (.ref e) (upd (upd H1 t (.tup [v])) e (ExA C none t e))
def tMkF (C : Addr) (f : Str) (ta : TE) : TE := fun σ H Q => ta σ H fun v H1 => ∀ t d e, H1 t = none → H1 d = none → H1 e = none → d ≠ t → e ≠ t → e ≠ d → Q (.ref e) (upd (upd (upd H1 t (.tup [v])) d (.xd [(f, v)])) e (ExA C (some d) t e))
theorem tup_ok {P : Program} {w : World} {H : Hp} {h : Heap} {t : Addr} {v : V} {u : Value} (r : RelV v u) (e : h.get? t = some (PySem.W.excTup [u])) : ObjOk P w H h t (.tup [v]) :=
  ⟨DE.one_sz u, [u], .cons r .nil, _, e, rfl, _, rfl⟩
section
variable {X : Cx} {C : Addr} {x : Str} {a : Expr} {ta : TE} {p pos : Pos}
theorem pe_mkB (T : BaseTxt X.K C) (gC : X.mg x = some (.ref C)) (kC : PySem.W.keepIn X.K (.ref C) = true) (hg : Gl X x) (he : PE X a ta) (hs : starEach [a] X.env = (false, eval a X.env) :: starEach [] X.env := by rfl) (hdb : (x == ("__debug__" : Str)) = false := by decide) :
    PE X (.Call (.Name x p) [a] [] pos) (tMkB C ta) := by
  obtain ⟨nm, q, N, bs, bm, sn, sub, ab, col, dd, k0, k1, k2, k3, k5, hC, hbm⟩ := T.cls
  refine ⟨fun pins s σ H Q I h => ?_⟩
  refine wpAny_Call_Name_kw (ld_glob I hg gC ?_ hdb)
  refine PySem.W.callWith_K (h₀ := X.base) I.ok.mod.kin kC ?_ hs (by rfl)
  rw [hs]
  show wpAny _ _ (spliced ((false, eval a X.env) :: backTo pos (starEach [] X.env))) _ _ s
  refine Calls.spliced_cons (thn (he.run pins s σ H _ I h) fun u s1 ⟨v, H1, I1, r1, q1⟩ => ?_)
  refine Calls.spliced_nil ⟨I1.kIn, ?_⟩
  show wpAny _ _ (call (.ref C) [u]) _ _ _
  obtain ⟨hp, g, d, tk, os⟩ := s1
  refine PySem.W.call_B PySem.F.excBase_ValueError (fun X => PySem.HandSPX.refsVE_contains X bm hbm) (I1.kIn _ _ hC) (PySem.W.looks_findIn I1.kIn T.iC) (DE.one_sz u) (fun h' k e1 e2 => ?_)
  have f1 : H1 (hp.objs.size + 1) = none := I1.hok.fresh (Nat.le_add_right _ 1)
  have f2 : H1 (hp.objs.size + 2) = none := I1.hok.fresh (Nat.le_add_right _ 2)
  have ne : hp.objs.size + 1 ≠ hp.objs.size + 2 := fun z => by exact absurd (Nat.add_left_cancel z) (by decide)
  have nn : ∀ n, hp.get? (hp.objs.size + n) = none := fun n => by
    cases z : hp.get? (hp.objs.size + n) with
    | none => rfl
    | some o => exact absurd (Heap.lt_size z) (Nat.not_lt.mpr (Nat.le_add_right _ n))
  refine ⟨.ref (hp.objs.size + 1), _, Inv.laid2 (tk := tk) I1 k (nn 2) (nn 1) f2 f1 ne (fun G eG => tup_ok r1 (eG.trans e2)) (exA_ok e1 ⟨rfl, rfl⟩ rfl rfl rfl rfl (show 4 < 6 by decide)), rfl, q1 _ _ f2 f1 ne⟩
theorem errRun {fld : Str} {fI cc : Addr} {pins : List (Addr × Obj)} {σ : L2.St} {H1 : Hp} {s1 : Shared} {Q : V → Hp → Prop} {v : V} {u : Value} {ar : Args} (T : DE.ErrTxt X.prog X.K fld C fI cc) (hr : Room 1 X.A) (har : ar = ⟨[u], []⟩ ∨ ar = ⟨[], [(fld, u)]⟩) (I1 : Inv X pins σ H1 s1) (r1 : RelV v u)
    (q : ∀ t d e, H1 t = none → H1 d = none → H1 e = none → d ≠ t → e ≠ t → e ≠ d → Q (.ref e) (upd (upd (upd H1 t (.tup [v])) d (.xd [(fld, v)])) e (ExA C (some d) t e))) :
    wpAny (model X.prog X.w) X.A (call (.ref C) ar.pos ar.kw) (fun u s' => ∃ v' H', Inv X pins σ H' s' ∧ RelV v' u ∧ Q v' H') X.xe s1 := by
  obtain ⟨mb, hb1, hb2⟩ := I1.mod.blt
  have hlim := I1.nolimit
  refine wpAny_call (DE.err_made (R := _) T har I1.kIn (I1.mod.glob.keeps I1.bk) (hb1.keeps I1.bk) hb2 hlim (by have := hr.dp; show X.A.depth + 1 < recursionLimit; omega) fun h' tk e dx t1 M => ?_)
  have nn : ∀ a, s1.heap.objs.size ≤ a → s1.heap.get? a = none := fun a ha => by
    cases z : s1.heap.get? a with
    | none => rfl
    | some o => exact absurd (Heap.lt_size z) (Nat.not_lt.mpr ha)
  have ft := I1.hok.fresh M.tbig
  have fd := I1.hok.fresh M.dbig
  have fe := I1.hok.fresh M.ebig
  refine ⟨.ref e, _, Inv.laid3 (tk := tk) I1 M.keep (nn _ M.tbig) (nn _ M.dbig) (nn _ M.ebig) ft fd fe (Ne.symm M.td) (Ne.symm M.te) (Ne.symm M.de) (fun G eG => tup_ok r1 (eG.trans M.args)) (fun G eG => ?_) (exA_ok M.obj ⟨rfl, rfl⟩ rfl rfl rfl rfl (show 4 < 6 by decide)), rfl, q _ _ _ ft fd fe (Ne.symm M.td) (Ne.symm M.te) (Ne.symm M.de)⟩
  refine ⟨_, M.ns.at (fun o q => eG.trans q), fun f => ?_⟩
  by_cases hw : f = fld
  · rw [if_pos hw, hw, show List.lookup fld [(fld, v)] = some v by simp [List.lookup]]
    exact r1
  · rw [if_neg hw, show List.lookup f [(fld, v)] = none by simp [List.lookup, show (f == fld) = false by simpa using hw]]
    trivial
theorem pe_mkF {fld : Str} {fI cc : Addr} (T : DE.ErrTxt X.prog X.K fld C fI cc) (gC : X.mg x = some (.ref C)) (kC : PySem.W.keepIn X.K (.ref C) = true) (hr : Room 1 X.A) (hg : Gl X x) (he : PE X a ta) (hs : starEach [a] X.env = (false, eval a X.env) :: starEach [] X.env := by rfl) (hdb : (x == ("__debug__" : Str)) = false := by decide) :
    PE X (.Call (.Name x p) [a] [] pos) (tMkF C fld ta) := by
  refine ⟨fun pins s σ H Q I h => ?_⟩
  refine wpAny_Call_Name_kw (ld_glob I hg gC ?_ hdb)
  refine PySem.W.callWith_K (h₀ := X.base) I.ok.mod.kin kC ?_ hs (by rfl)
  rw [hs]
  show wpAny _ _ (spliced ((false, eval a X.env) :: backTo pos (starEach [] X.env))) _ _ s
  refine Calls.spliced_cons (thn (he.run pins s σ H _ I h) fun u s1 ⟨v, H1, I1, r1, q1⟩ => ?_)
  refine Calls.spliced_nil ⟨I1.kIn, ?_⟩
  exact errRun T hr (.inl rfl) I1 r1 q1
theorem pe_mkK {fld : Str} {fI cc : Addr} {kws : List Keyword} {tk : _} (T : DE.ErrTxt X.prog X.K fld C fI cc) (gC : X.mg x = some (.ref C)) (kC : PySem.W.keepIn X.K (.ref C) = true) (hr : Room 1 X.A) (hg : Gl X x) (hkw : PK X kws tk) 
    (hall : (backToKw pos (keywordEach kws X.env)).all (·.1.isSome) = true := by rfl) (hks : (backToKw pos (keywordEach kws X.env)).filterMap (·.1) = [fld] := by rfl) (hpl : ((backTo pos (starEach [] X.env)).any (·.1) || (backToKw pos (keywordEach kws X.env)).any (·.1.isNone)) = false := by rfl) (hdb : (x == ("__debug__" : Str)) = false := by decide) :
    PE X (.Call (.Name x p) [] kws pos) (fun σ H Q => tk σ H fun vs H1 => ∃ v, vs = [v] ∧ tMkF C fld (fun σ H Q => Q v H) σ H1 Q) := by
  refine ⟨fun pins s σ H Q I h => ?_⟩
  refine wpAny_Call_Name_kw (ld_glob I hg gC ?_ hdb)
  refine PySem.W.callWith_KW0 (h₀ := X.base) I.ok.mod.kin kC hall ?_ hpl
  refine thn (hkw.run pos pins s σ H _ I h) fun us s1 ⟨vs, H1, I1, r1, v, ev, q1⟩ => ⟨I1.kIn, ?_⟩
  subst ev
  rw [hks]
  cases r1 with
  | cons r rn =>
    cases rn
    exact errRun T hr (.inr rfl) I1 r q1
end
end DL

set_option Elab.async false
set_option autoImplicit false
set_option linter.all false
set_option maxRecDepth 100000
set_option maxHeartbeats 2000000
/-! isinstance of errors with a dict or without -/
namespace DE
open PySem PySem.Spec PySem.Calls PyProof.Rows PySem.W
section
variable {prog : Program} {w : World} {A : Around} {E : Value → Shared → Prop} {s : Shared} {K : Frag} {x D : Addr} {ox : Obj} {od : Option Obj}
theorem cls_found (hd : hasDictIn K D = true) (h1 : findIn K (.ref D) "__class__" = some (some (.builtin "object.__class__"))) (h2 : specialIn K (.builtin "object.__class__") "__get__" = some (some (.builtin "getset_descriptor.__get__")))
    (h3 : takesIn K (.builtin "object.__class__") = some true) : findObj K D od "__class__" = some (.bind (.builtin "getset_descriptor.__get__") (.builtin "object.__class__")) := by
  obtain ⟨cd, hc, _⟩ := any_some hd
  unfold findObj
  rw [hc, Option.bind_some, h1, Option.bind_some]
  simp only [h2, h3, Option.bind_some]
theorem cls_of_err (T : L2.ExcC K D) {Q : Option Value → Shared → Prop} (X : K.In s.heap) (I : InstAt s.heap x ox D od) (h : Q (some (.ref D)) { s with toks := s.toks + 1 }) :
    wpAny (model prog w) A (getAttr? (.ref x) "__class__") Q E s := by
  have hf := cls_found (od := od) T.hd T.ha T.hn T.ht
  obtain ⟨hp, g, d, t, os⟩ := s
  have y0 := I.type (M := model prog w)
  have y1 := looks_findIn (M := model prog w) X T.hg
  have y2 := looks_findIn (M := model prog w) X T.hk
  have y3 := looks_find (M := model prog w) X I hf
  have isB : Looks (model prog w) hp (isInstance (.ref x) (.type "BaseException")) true := by
    exact y0.andThen (looks_subIn X T.hs)
  have z2 : (Value.builtin "BaseException.__getattribute__" == Value.builtin "object.__getattribute__") = false := by
    decide +kernel
  have z1 : (onTheHeap (Value.ref D) && Value.builtin "BaseException.__getattribute__" == Value.builtin "object.__getattribute__") = false := by
    rw [z2]
    rfl
  have z0 : (false && onTheHeap (Value.builtin "BaseException.__getattribute__")) = false := by rfl
  unfold getAttr? getAttrBy? getAttrBy
  refine wpAny_bind (wpAny_mkText (wpAny_bind (wpAny_attempt (wpAny_holding ?_))))
  refine wpAny_bind (y0.at (wpAny_bind (y1.at ?_)))
  show wpAny _ _ (if (onTheHeap (Value.ref D) && Value.builtin "BaseException.__getattribute__" == Value.builtin "object.__getattribute__") = true then _ else _) _ _ _
  rw [z1, if_neg Bool.false_ne_true]
  unfold getAttrByItsOwn hookBefore
  refine wpAny_bind ?_
  rw [if_pos (show onTheHeap (Value.ref D) = true by rfl)]
  refine y2.at ?_
  refine wpAny_bind (wpAny_attempt (wpAny_holding ?_))
  unfold callGetattribute
  rw [z0, if_neg Bool.false_ne_true]
  unfold boundAndCalled
  rw [PySem.F.excAttr_ValueError.ga.bind (.ref x)]
  refine wpAny_bind (wpAny_pure ?_)
  show wpAny _ _ (call (.builtin "BaseException.__getattribute__") [.ref x, .str "__class__" t]) _ _ _
  refine wpAny_call (codeAny_call_builtin PySem.F.excAttr_ValueError.ga.plain PySem.F.entry_bexc_ga ?_)
  refine @check_slot (model prog w) _ _ ⟨hp, g, d, t + 1, os⟩ "BaseException.__getattribute__" "BaseException" "__getattribute__" (.ref x) [.str "__class__" t] [] _ (by decide +kernel) (by decide +kernel) isB (PySem.F.args_bexc_ga (.ref x) (.str "__class__" t)) ?_
  unfold Builtin.«object.__getattribute__»
  refine wpAny_bind (wpAny_of_eq (a := ((Value.ref x : Value), [Value.str "__class__" t])) (by
    first
      | rfl
      | (simp only [slotArgs]
         rfl)) ?_)
  refine wpAny_bind (wpAny_pure (wpAny_bind (y0.at (wpAny_bind (y3.at ?_)))))
  show wpAny _ _ (holding [Value.builtin "object.__class__"] (call (.builtin "getset_descriptor.__get__") [.builtin "object.__class__", .ref x, .ref D]) >>= ret) _ _ _
  refine wpAny_bind (wpAny_holding (wpAny_call (class_get (s := ⟨hp, g, d, t + 1, os⟩) (ox := ox) (od := od) X I T.hm ?_)))
  refine wpAny_pure ?_
  show wpAny _ _ (handedOut (.ref D)) _ _ _
  rw [handedOut_of (v := .ref D) (by rfl)]
  first
    | exact wpAny_pure (wpAny_pure h)
    | exact wpAny_pure h
    | exact wpAny_pure (wpAny_bind (wpAny_pure (wpAny_pure h)))
theorem kitx_err (T : L2.ExcC K D) : KitX K (.ref x) (.ref D) (fun h => InstAt h x ox D od) where
  ty := fun _ _ _ I => by exact I.type
  it := fun _ _ X _ => by
    obtain ⟨cd, hc, _⟩ := any_some T.hd
    unfold clsIn at hc
    split at hc
    · rename_i ho
      intro A' Q' E' s' k q
      unfold isType loadHead
      exact wpAny_bind (wpAny_loadPart (k _ _ (X _ _ ho)) (wpAny_pure q))
    · cases hc
  ne := fun h tp dd its n sl X htp => by
    obtain ⟨cd, hc, _⟩ := any_some T.hd
    refine Bool.eq_false_iff.mpr fun q => ?_
    have e : D = tp := by exact Value.ref.inj (beq_iff_eq.mp q)
    subst e
    unfold clsIn at hc
    split at hc
    · rename_i ho
      have z := (X _ _ ho).symm.trans htp
      cases z
    · cases hc
  ca := fun X I k => cls_of_err T X I k
end
end DE

set_option Elab.async false
set_option autoImplicit false
set_option linter.all false
set_option maxRecDepth 100000
set_option maxHeartbeats 2000000
/-! errors as data: made, read, asked -/
namespace DL
open PySem PySem.Spec PyProof.Rows L2

def mkE (nm : Str) (d : PyData) : DM PyData := if d.plain = true then pure (spc (errD nm d)) else DM.fail
def fMk (nm : Str) (f : Sl → DM PyData) : Sl → DM PyData := fun ρ => f ρ >>= mkE nm
theorem mkE_post {C : Cf} {F H : Hp} {σ : Stk} {nm : Str} {d : PyData} {s : Drw} {Q : V → Hp → Prop} (hp : Post C.S F H C.W σ C.er (RD C.S) (mkE nm d s) Q) :
    d.plain = true ∧ ∀ v F' H', Stp C.S F H F' H' → Stt C.S F' H' s → Rp C.S F' v (spc (errD nm d)) → Q v H' := by
  unfold mkE at hp
  split at hp
  · rename_i h
    exact ⟨h, hp⟩
  · exact hp.elim
/-- what the written part says of an error's class -/
structure ErrTx (K : PySem.W.Frag) (mg : Str → Option Value) (c : ErrC) : Prop where
  g : mg c.nm = some (.ref c.C)
  k : PySem.W.keepIn K (.ref c.C) = true
  dbg : (c.nm == ("__debug__" : Str)) = false
section
variable {X : Cx} {C : Cf} {κ : List Bool} {e : Expr} {f : Sl → DM PyData} {pos p p2 p3 : Pos} {Es : List ErrC} {c : ErrC}
theorem laid2_step {S : Sig} {F H : Hp} {s : Drw} {t e : Addr} {ot oe : HO} (ss : Stt S F H s) (ht : H t = none) (he : H e = none) (ne : e ≠ t) :
    Stp S F H (upd (upd F t ot) e oe) (upd (upd H t ot) e oe) ∧ Stt S (upd (upd F t ot) e oe) (upd (upd H t ot) e oe) s := by
  have a := Stp.frz (S := S) (o := ot) ht (ss.fnone ht)
  have s1 := ss.frz (o := ot) ht
  have he1 : upd H t ot e = none := by rw [upd_ne ne]; exact he
  have b := Stp.frz (S := S) (o := oe) he1 (s1.fnone he1)
  exact ⟨a.trans b, s1.frz he1⟩
theorem pd_mkB (hK : X.K = C.S.K) (hsp : ∀ F v q, EsSp X.K Es F v q → C.S.sp F v q) (hc : c ∈ Es) (hf : c.fld = none) (hx : ErrTx X.K X.mg c) (T : BaseTxt X.K c.C) (ha : PD X C κ e f) (hg : Gl X c.nm := by rfl) (hs : starEach [e] X.env = (false, eval e X.env) :: starEach [] X.env := by rfl) :
    PD X C κ (.Call (.Name c.nm p) [e] [] pos) (fMk c.nm f) := by
  obtain ⟨ta, h1, h2⟩ := ha.ex
  refine ⟨_, pe_mkB T hx.g hx.k hg h1 hs hx.dbg, fun H0 F H ρ σ s Q hs he hp => h2 H0 F H ρ σ s _ hs he (hp.fst RD.ok fun v d s' F1 H1 st ss r hp1 => ?_)⟩
  obtain ⟨pl, hp2⟩ := mkE_post hp1
  intro t a ht hae ne
  obtain ⟨q1, q2⟩ := laid2_step (ot := .tup [v]) (oe := ExA c.C none t a) ss ht hae ne
  refine hp2 _ _ _ q1 q2 (.spc (hsp _ _ _ ⟨c, d, a, hc, rfl, rfl, ⟨t, v, none, .inl ?_, ?_, .inl upd_same, .inl ⟨hf, rfl⟩⟩⟩))
  · rw [upd_ne (Ne.symm ne)]; exact upd_same
  · rw [hK]; exact Rp.s0 d v pl (Rp.mono q1.le.rle _ _ r)
theorem mkF_sat {fld : Str} {d : PyData} {v : V} {σ : Stk} {F1 H1 : Hp} {s' : Drw} {Q : V → Hp → Prop} (hK : X.K = C.S.K) (hsp : ∀ F v q, EsSp X.K Es F v q → C.S.sp F v q) (hc : c ∈ Es) (hf : c.fld = some fld) (ss : Stt C.S F1 H1 s') (r : Rp C.S F1 v d)
    (hp1 : Post C.S F1 H1 C.W σ C.er (RD C.S) (mkE c.nm d s') Q) : ∀ t d e, H1 t = none → H1 d = none → H1 e = none → d ≠ t → e ≠ t → e ≠ d → Q (.ref e) (upd (upd (upd H1 t (.tup [v])) d (.xd [(fld, v)])) e (ExA c.C (some d) t e)) := by
  obtain ⟨pl, hp2⟩ := mkE_post hp1
  intro t dx a ht hdx hae n1 n2 n3
  have s0 := ss.frz (o := .tup [v]) ht
  have a0 := Stp.frz (S := C.S) (o := .tup [v]) ht (ss.fnone ht)
  obtain ⟨q1, q2⟩ := laid2_step (ot := .xd [(fld, v)]) (oe := ExA c.C (some dx) t a) s0 (by rw [upd_ne n1]; exact hdx) (by rw [upd_ne n2]; exact hae) n3
  have st := a0.trans q1
  refine hp2 _ _ _ st q2 (.spc (hsp _ _ _ ⟨c, d, a, hc, rfl, rfl, ⟨t, v, some dx, .inl ?_, ?_, .inl upd_same, .inr ⟨fld, dx, hf, rfl, .inl ?_⟩⟩⟩))
  · rw [upd_ne (Ne.symm n2), upd_ne (Ne.symm n1)]; exact upd_same
  · rw [hK]; exact Rp.s0 d v pl (Rp.mono st.le.rle _ _ r)
  · rw [upd_ne (Ne.symm n3)]; exact upd_same
theorem pd_mkF {fld : Str} {fI cc : Addr} (hK : X.K = C.S.K) (hsp : ∀ F v q, EsSp X.K Es F v q → C.S.sp F v q) (hc : c ∈ Es) (hf : c.fld = some fld) (hx : ErrTx X.K X.mg c) (T : DE.ErrTxt X.prog X.K fld c.C fI cc) (hr : Room 1 X.A) (ha : PD X C κ e f) (hg : Gl X c.nm := by rfl)
    (hs : starEach [e] X.env = (false, eval e X.env) :: starEach [] X.env := by rfl) : PD X C κ (.Call (.Name c.nm p) [e] [] pos) (fMk c.nm f) := by
  obtain ⟨ta, h1, h2⟩ := ha.ex
  exact ⟨_, pe_mkF T hx.g hx.k hr hg h1 hs hx.dbg, fun H0 F H ρ σ s Q hs he hp => h2 H0 F H ρ σ s _ hs he (hp.fst RD.ok fun v d s' F1 H1 st ss r hp1 => mkF_sat hK hsp hc hf ss r hp1)⟩
theorem pd_mkK {fld : Str} {fI cc : Addr} {kpos : Pos} (hK : X.K = C.S.K) (hsp : ∀ F v q, EsSp X.K Es F v q → C.S.sp F v q) (hc : c ∈ Es) (hf : c.fld = some fld) (hx : ErrTx X.K X.mg c) (T : DE.ErrTxt X.prog X.K fld c.C fI cc) (hr : Room 1 X.A) (ha : PD X C κ e f) (hg : Gl X c.nm := by rfl)
    (hall : (backToKw pos (keywordEach [⟨some fld, e, kpos⟩] X.env)).all (·.1.isSome) = true := by rfl) (hks : (backToKw pos (keywordEach [⟨some fld, e, kpos⟩] X.env)).filterMap (·.1) = [fld] := by rfl)
    (hpl : ((backTo pos (starEach [] X.env)).any (·.1) || (backToKw pos (keywordEach [⟨some fld, e, kpos⟩] X.env)).any (·.1.isNone)) = false := by rfl) : PD X C κ (.Call (.Name c.nm p) [] [⟨some fld, e, kpos⟩] pos) (fMk c.nm f) := by
  obtain ⟨ta, h1, h2⟩ := ha.ex
  exact ⟨_, pe_mkK T hx.g hx.k hr hg (pk_cons h1 pk_nil) hall hks hpl hx.dbg, fun H0 F H ρ σ s Q hs he hp => h2 H0 F H ρ σ s _ hs he (hp.fst RD.ok fun v d s' F1 H1 st ss r hp1 => ⟨v, rfl, mkF_sat hK hsp hc hf ss r hp1⟩)⟩

/-! ### asked -/
/-- the error's class, what it is made of -/
def errOf (d : PyData) : Option (Str × PyData) := match d with
  | .dict [(.list [], .tuple [.str nm, a])] => some (nm, a)
  | _ => none
theorem errOf_some {d : PyData} {q : Str × PyData} (h : errOf d = some q) : d = spc (errD q.1 q.2) := by
  unfold errOf at h
  split at h
  · cases h; rfl
  · cases h
structure ErrIn (X : Cx) (C : Cf) (Es : List ErrC) : Prop where
  inv : ∀ F v nm a, C.S.sp F v (errD nm a) → EsSp X.K Es F v (errD nm a)
  cls : ∀ c, c ∈ Es → L2.ExcC X.K c.C
theorem ErrIn.at {F : Hp} {v : V} {nm : Str} {a : PyData} (h : ErrIn X C Es) (r : Rp C.S F v (spc (errD nm a))) : ∃ c e, c ∈ Es ∧ c.nm = nm ∧ v = .ref e ∧ ErrAt X.K F c e a := by
  obtain ⟨c, a', e, h1, h2, h3, h4⟩ := h.inv F v nm a (spcInv r)
  unfold errD at h2
  injection h2 with h2
  injection h2 with e1 h2
  injection h2 with e2 h2
  injection e1 with e1
  subst e2
  exact ⟨c, e, h1, e1.symm, h3, h4⟩
theorem exA_at {P : Program} {w : World} {H : Hp} {h : Heap} {D e t : Addr} {dx : Option Addr} (k : HOk P w H h) (r : Rd H e (ExA D dx t e)) : ∃ oe vs, h.get? e = some oe ∧ Zc (.ref D) dx oe ∧ oe.data = .fields vs ∧ vs[0]? = some (.ref t) := by
  obtain ⟨⟨oe, vs, h1, h2, h3, h4, _⟩, _⟩ := r.ok k
  exact ⟨oe, vs, h1, h2, h3, h4⟩
/-- the instance, its dict with it -/
theorem err_inst {F H : Hp} {h : Heap} {a : PyData} {e : Addr} {P : Program} {w : World} (k : HOk P w H h) (hl : hle F H) (x : ErrAt X.K F c e a) : ∃ oe od, PySem.W.InstAt h e oe c.C od ∧ ∀ fld, c.fld = some fld → ∃ o v u, od = some o ∧ Rp (S0 X.K) F v a ∧ RelV v u ∧ PySem.W.lookIn fld o = some (some u) := by
  obtain ⟨t, v, dx, h1, h2, h3, h4⟩ := x.ex
  obtain ⟨oe, vs, e1, e2, e3, e4⟩ := exA_at k (hl.rle _ _ (fun _ _ z => nomatch z) h3)
  have no : PySem.W.notCls oe = true := by unfold PySem.W.notCls; rw [e3] <;> rfl
  rcases h4 with ⟨hf, hd⟩ | ⟨f, d, hf, hd, hr⟩
  · subst hd
    refine ⟨oe, none, ⟨e1, e2.1, no, by rw [e2.2]; trivial⟩, fun fld z => ?_⟩
    rw [hf] at z; cases z
  · subst hd
    have z0 : ObjOk P w H h d (.xd [(f, v)]) := Rd.ok (hl.rle _ _ (fun _ _ z => nomatch z) hr) k
    obtain ⟨mA, n1, n2⟩ := z0
    obtain ⟨od, o1, o2⟩ := lookIn_ns n1
    refine ⟨oe, some od, ⟨e1, e2.1, no, by rw [e2.2]; exact o1⟩, fun fld z => ?_⟩
    rw [hf] at z
    cases z
    have q := n2 f
    rw [show List.lookup f [(f, v)] = some v by simp [List.lookup]] at q
    obtain ⟨u, hu, ru⟩ := RelO.some_of (v := v) (o := mA f) q
    exact ⟨od, v, u, rfl, h2, ru, by rw [o2, hu]⟩
def attrE (flds : Str → Option Str) (fld : Str) (d : PyData) : DM PyData := match errOf d with
  | some q => if flds q.1 = some fld then pure q.2 else DM.fail
  | none => DM.fail
def tAttrE (P : V → Hp → Prop) (G : V → V → Hp → Prop) (te : TE) : TE := fun σ H Q => te σ H fun x H1 => ∃ v, G x v H1 ∧ Q v H1
theorem pe_attrE {fld : Str} {te : TE} (E : ErrIn X C Es) (hno : ∀ c, c ∈ Es → c.fld = some fld → PySem.W.findIn X.K (.ref c.C) fld = some none) (he : PE X e te) (hb : attributeBase e fld X.env (eval e X.env) = eval e X.env := by rfl) :
    PE X (.Attribute e fld pos) (fun σ H Q => te σ H fun x H1 => ∃ c a F ad, c ∈ Es ∧ x = .ref a ∧ hle F H1 ∧ ErrAt X.K F c a ad ∧ c.fld = some fld ∧ ∀ v, Rp (S0 X.K) F v ad → Q v H1) := by
  refine ⟨fun pins s σ H Q I h => ?_⟩
  refine attr_of hb (thn (he.run pins s σ H _ I h) fun u s1 hh => ?_)
  obtain ⟨x, H1, I1, rx, c, a, F, ad, hc, ex, hl, ea, hf, q⟩ := hh
  subst ex
  obtain rfl : u = Value.ref a := rx
  obtain ⟨oe, od, J, hfl⟩ := err_inst I1.hok hl ea
  obtain ⟨o, v, w, eo, rv, rw', hlk⟩ := hfl fld hf
  subst eo
  have T := E.cls c hc
  exact HandSPX.exc_get I1.kIn J T.hg T.hk T.hs (PySem.W.findObj_own T.hd (hno c hc hf) rfl hlk) (handed_of rw') ⟨v, H1, I1.tok _, rw', q v rv⟩
theorem pd_attrE {fld : Str} {flds : Str → Option Str} (hK : X.K = C.S.K) (E : ErrIn X C Es) (hfl : ∀ c, c ∈ Es → flds c.nm = c.fld) (hno : ∀ c, c ∈ Es → c.fld = some fld → PySem.W.findIn X.K (.ref c.C) fld = some none) (he : PD X C κ e f) (hb : attributeBase e fld X.env (eval e X.env) = eval e X.env := by rfl) :
    PD X C κ (.Attribute e fld pos) (fun ρ => f ρ >>= attrE flds fld) := by
  obtain ⟨t, h1, h2⟩ := he.ex
  refine ⟨_, pe_attrE E hno h1 hb, fun H0 F H ρ σ s Q hs he hp => h2 H0 F H ρ σ s _ hs he (hp.fst RD.ok fun v d s' F1 H1 st ss r hp1 => ?_)⟩
  unfold attrE at hp1
  cases hq : errOf d with
  | none => simp only [hq] at hp1; exact hp1.elim
  | some q =>
    simp only [hq] at hp1
    by_cases hz : flds q.1 = some fld
    · rw [if_pos hz] at hp1
      have ed := errOf_some hq
      subst ed
      obtain ⟨c, e, hc, en, ev, ea⟩ := E.at r
      refine ⟨c, e, F1, _, hc, ev, ss.le, ea, by rw [← hfl c hc, en]; exact hz, fun v hv => hp1 v F1 H1 .refl ss (Rp.of0 _ _ (by rw [← hK]; exact hv))⟩
    · rw [if_neg hz] at hp1; exact hp1.elim

/-! isinstance(e, C) -/
def rIsX (K : PySem.W.Frag) (P : Addr → Value → Bool → Prop) : List V → Hp → VK → Prop := fun xs H Q => ∃ (c : ErrC) (a : Addr) (F : Hp) (ad : PyData) (y : V) (u : Value) (b : Bool), xs = [.ref a, y] ∧ ClsV y u ∧ hle F H ∧ ErrAt K F c a ad ∧ L2.ExcC K c.C ∧ PySem.W.kitOne K (.ref c.C) u = some b ∧ Q (.bl b) H
theorem call_isX : CallR X (.builtin "isinstance") (rIsX X.K fun _ _ _ => True) := by
  intro pins s σ H xs us Q I r h
  obtain ⟨c, a, F, ad, y, u, b, rfl, k, hl, ea, T, e, q⟩ := h
  obtain ⟨u1, u2, rfl, r1, r2⟩ := vals2 r
  have e2 := k.eq r2
  subst e2
  cases r1
  obtain ⟨oe, od, J, _⟩ := err_inst I.hok hl ea
  exact PySem.W.kia_one (DE.kitx_err T) I.kIn J e (fun z => nomatch z) fun tk => ⟨.bl b, H, I.tok tk, rfl, q⟩
def isE (hit : Str → Bool) (d : PyData) : DM PyData := match d with
  | .none => pure (.bool false)
  | d => match errOf d with
    | some q => pure (.bool (hit q.1))
    | none => DM.fail
theorem pd_isE {hit : Str → Bool} {y : V} {u : Value} {e2 : Expr} (hK : X.K = C.S.K) (E : ErrIn X C Es) (hy : ClsV y u) (hk : ∀ c, c ∈ Es → PySem.W.kitOne X.K (.ref c.C) u = some (hit c.nm)) (hn : PySem.W.kitOne X.K (.type "NoneType") u = some false) (hm : X.mg "isinstance" = none)
    (ha : PD X C κ e f) (h2 : PE X e2 (tC y)) (hg : Gl X "isinstance" := by rfl)
    (hs : starEach (e :: [e2]) X.env = (false, eval e X.env) :: starEach [e2] X.env := by rfl) (hs2 : starEach [e2] X.env = (false, eval e2 X.env) :: starEach [] X.env := by rfl) (hpl : (backTo pos (starEach [e2] X.env)).any (·.1) = false := by rfl) :
    PD X C κ (.Call (.Name "isinstance" p) [e, e2] [] pos) (fun ρ => f ρ >>= isE hit) := by
  obtain ⟨t, h1, k1⟩ := ha.ex
  refine ⟨_, pe_callB (CallR.or call_isX call_isi) hg hm (by decide +kernel) (pa_cons h1 (pa_cons h2 pa_nil hs2) hs) (by decide) (by decide) hs hpl, fun H0 F H ρ σ s Q hs he hp => k1 H0 F H ρ σ s _ hs he (hp.fst RD.ok fun v d s' F1 H1 st ss r hp1 => ?_)⟩
  show _ ∨ _
  unfold isE at hp1
  split at hp1
  · cases r
    exact .inr ⟨.non, y, _, u, false, rfl, hy, .base .non, hn, hp1 _ F1 H1 .refl ss (.bl _)⟩
  · cases hq : errOf d with
    | none => simp only [hq] at hp1; exact hp1.elim
    | some q =>
      simp only [hq] at hp1
      have ed := errOf_some hq
      subst ed
      obtain ⟨c, e, hc, en, ev, ea⟩ := E.at r
      subst ev
      exact .inl ⟨c, e, F1, _, y, u, hit q.1, rfl, hy, ss.le, ea, E.cls c hc, by rw [hk c hc, en], hp1 _ F1 H1 .refl ss (.bl _)⟩

/-! str(e) -/
def strE (d : PyData) : DM PyData := match errOf d with
  | some (_, .str x) => pure (.str x)
  | _ => DM.fail
def rStrX (K : PySem.W.Frag) : List V → Hp → VK → Prop := fun xs H Q => ∃ (c : ErrC) (a : Addr) (F : Hp) (x : Str), xs = [.ref a] ∧ hle F H ∧ ErrAt K F c a (.str x) ∧ L2.ExcC K c.C ∧ PySem.W.findIn K (.ref c.C) "__str__" = some (some (.builtin "BaseException.__str__")) ∧ Q (.str x) H
theorem call_strX (hu : X.A.units + 2 < cLine) : CallR X (.type "str") (rStrX X.K) := by
  intro pins s σ H xs us Q I r h
  obtain ⟨c, a, F, x, rfl, hl, ea, T, hstr, q⟩ := h
  obtain ⟨u, rfl, ru⟩ := r.one
  cases ru
  obtain ⟨t, v, dx, h1, h2, h3, h4⟩ := ea.ex
  obtain ⟨oe, vs, e1, e2, e3, e4⟩ := exA_at I.hok (hl.rle _ _ (fun _ _ z => nomatch z) h3)
  cases h2
  have z0 : ObjOk X.prog X.w H s.heap t (.tup [V.str x]) := Rd.ok (hl.rle _ _ (fun _ _ z => nomatch z) h1) I.hok
  obtain ⟨_, its, rt, o, g1, g2, n, g3⟩ := z0
  obtain ⟨w, rfl, rw'⟩ := rt.one
  obtain ⟨tk, rfl⟩ := (show ∃ t, w = Value.str x t from rw')
  exact PySem.P.str_of_C_one hu ⟨I.kIn, oe, vs, e1, e2.1, e3, e4⟩ ⟨o, n, g1, g2, g3⟩ hstr T.hs ⟨.str x, H, I, ⟨tk, rfl⟩, q⟩
theorem pd_strE (hK : X.K = C.S.K) (E : ErrIn X C Es) (hstr : ∀ c, c ∈ Es → PySem.W.findIn X.K (.ref c.C) "__str__" = some (some (.builtin "BaseException.__str__"))) (hu : X.A.units + 2 < cLine) (hm : X.mg "str" = none) (ha : PD X C κ e f) (hg : Gl X "str" := by rfl)
    (hs : starEach [e] X.env = (false, eval e X.env) :: starEach [] X.env := by rfl) (hpl : (backTo pos (starEach [] X.env)).any (·.1) = false := by rfl) : PD X C κ (.Call (.Name "str" p) [e] [] pos) (fun ρ => f ρ >>= strE) := by
  obtain ⟨t, h1, k1⟩ := ha.ex
  refine ⟨_, pe_callTy (call_strX hu) hg hm (by decide +kernel) (pa_cons h1 pa_nil hs) (by decide) (by decide) hs hpl, fun H0 F H ρ σ s Q hs he hp => k1 H0 F H ρ σ s _ hs he (hp.fst RD.ok fun v d s' F1 H1 st ss r hp1 => ?_)⟩
  cases hq : errOf d with
  | none =>
    have hz : strE d = DM.fail := by unfold strE; rw [hq]
    rw [hz] at hp1; exact hp1.elim
  | some q =>
    obtain ⟨nm, y⟩ := q
    cases y with
    | str x =>
      have hz : strE d = pure (.str x) := by unfold strE; rw [hq]
      rw [hz] at hp1
      have ed := errOf_some hq
      subst ed
      obtain ⟨c, e, hc, en, ev, ea⟩ := E.at r
      subst ev
      exact ⟨c, e, F1, x, rfl, ss.le, ea, E.cls c hc, hstr c hc, hp1 _ F1 H1 .refl ss (.str x)⟩
    | none => rw [show strE d = DM.fail by unfold strE; rw [hq]] at hp1; exact hp1.elim
    | bool b => rw [show strE d = DM.fail by unfold strE; rw [hq]] at hp1; exact hp1.elim
    | int b => rw [show strE d = DM.fail by unfold strE; rw [hq]] at hp1; exact hp1.elim
    | list b => rw [show strE d = DM.fail by unfold strE; rw [hq]] at hp1; exact hp1.elim
    | tuple b => rw [show strE d = DM.fail by unfold strE; rw [hq]] at hp1; exact hp1.elim
    | dict b => rw [show strE d = DM.fail by unfold strE; rw [hq]] at hp1; exact hp1.elim
end
end DL

set_option Elab.async false
set_option autoImplicit false
set_option linter.all false
set_option maxRecDepth 100000
set_option maxHeartbeats 2000000
/-! more rules over data: int, abs, min, **, list * n, x[i], repr -/
namespace DL
open PySem PySem.Spec PyProof.Rows L2
section
variable {X : Cx} {C : Cf} {κ : List Bool} {e o i : Expr} {fo fi : Sl → DM PyData} {pos : Pos}
def intD (ds : List PyData) : DM PyData := match ds with
  | [.int i] => pure (.int i)
  | [.bool b] => pure (.int (if b then 1 else 0))
  | _ => DM.fail
theorem calld_int : CallD X C (.type "int") (RD C.S) intD := by
  refine ⟨_, call_int1, fun F H s σ vs ds Q ss r hp => ?_⟩
  match ds, r with
  | [], _ => exact hp.elim
  | [d], .cons r1 .nil =>
    cases d with
    | int i =>
      rw [r1.int]
      exact .inl ⟨i, rfl, hp _ F H .refl ss (.int _)⟩
    | bool b =>
      rw [r1.bool]
      exact .inr ⟨b, rfl, hp _ F H .refl ss (.int _)⟩
    | none => exact hp.elim
    | str b => exact hp.elim
    | list b => exact hp.elim
    | tuple b => exact hp.elim
    | dict b => exact hp.elim
  | d :: _ :: _, _ => cases d <;> exact hp.elim
def absD (ds : List PyData) : DM PyData := match ds with
  | [.int i] => pure (.int (if i < 0 then -i else i))
  | _ => DM.fail
theorem calld_abs : CallD X C (.builtin "abs") (RD C.S) absD := by
  refine ⟨_, call_abs, fun F H s σ vs ds Q ss r hp => ?_⟩
  match ds, r with
  | [], _ => exact hp.elim
  | [d], .cons r1 .nil =>
    cases d with
    | int i =>
      rw [r1.int]
      exact ⟨i, rfl, hp _ F H .refl ss (.int _)⟩
    | bool b => exact hp.elim
    | none => exact hp.elim
    | str b => exact hp.elim
    | list b => exact hp.elim
    | tuple b => exact hp.elim
    | dict b => exact hp.elim
  | d :: _ :: _, _ => cases d <;> exact hp.elim
def minD (ds : List PyData) : DM PyData := match ds with
  | [.int i, .int j] => pure (.int (if j < i then j else i))
  | _ => DM.fail
theorem calld_min (hc : X.calm = true) : CallD X C (.builtin "min") (RD C.S) minD := by
  refine ⟨_, call_min2 hc, fun F H s σ vs ds Q ss r hp => ?_⟩
  match ds, r with
  | [], _ => exact hp.elim
  | [d], _ => cases d <;> exact hp.elim
  | [.int i, .int j], .cons r1 (.cons r2 .nil) =>
    rw [r1.int, r2.int]
    exact ⟨i, j, rfl, hp _ F H .refl ss (.int _)⟩
  | .int i :: .int j :: _ :: _, _ => exact hp.elim
  | .none :: _ :: _, _ => exact hp.elim
  | .bool _ :: _ :: _, _ => exact hp.elim
  | .str _ :: _ :: _, _ => exact hp.elim
  | .list _ :: _ :: _, _ => exact hp.elim
  | .tuple _ :: _ :: _, _ => exact hp.elim
  | .dict _ :: _ :: _, _ => exact hp.elim
  | .int _ :: .none :: _, _ => exact hp.elim
  | .int _ :: .bool _ :: _, _ => exact hp.elim
  | .int _ :: .str _ :: _, _ => exact hp.elim
  | .int _ :: .list _ :: _, _ => exact hp.elim
  | .int _ :: .tuple _ :: _, _ => exact hp.elim
  | .int _ :: .dict _ :: _, _ => exact hp.elim
def powD (a b : PyData) : DM PyData := match a, b with
  | .int i, .int j => if 0 ≤ j ∧ j ≤ 1000000 ∧ i.natAbs < 2 ^ 64 then pure (.int (i ^ j.toNat)) else DM.fail
  | _, _ => DM.fail
theorem opd_pow : OpD X C (binaryOp .Pow) (RD C.S) powD := by
  refine ⟨_, op_pow, fun F H Hs s σ x y a b Q ss ra rb hp => ?_⟩
  cases a <;> cases b <;> first | exact hp.elim | skip
  rename_i i j
  have hp' : PSt C F H σ (RD C.S) ((if 0 ≤ j ∧ j ≤ 1000000 ∧ i.natAbs < 2 ^ 64 then (pure (.int (i ^ j.toNat)) : DM PyData) else DM.fail) s) Q := hp
  rw [ra.int, rb.int]
  by_cases hz : 0 ≤ j ∧ j ≤ 1000000 ∧ i.natAbs < 2 ^ 64
  · rw [if_pos hz] at hp'
    exact ⟨_, _, rfl, rfl, hz, hp' _ F H .refl ss (.int _)⟩
  · rw [if_neg hz] at hp'; exact hp'.elim
/-! x[i] -/
def ixD (a b : PyData) : DM PyData := match a, b with
  | .list xs, .int i => DM.opt (atI xs i)
  | .tuple xs, .int i => DM.opt (atI xs i)
  | .str z, .int i => if z.length ≤ sizeLine then DM.opt ((atI z.cps.toList i).map fun c => .str ⟨#[c]⟩) else DM.fail
  | _, _ => DM.fail
theorem RpAll.atI {S : Sig} {F : Hp} {vs : List V} {ds : List PyData} {i : Int} {d : PyData} (r : RpAll S F vs ds) (h : L2.atI ds i = some d) : ∃ v, L2.atI vs i = some v ∧ Rp S F v d := by
  unfold L2.atI at h ⊢
  rw [RpAll.len r]
  cases hj : ixN ds.length i with
  | none => rw [hj] at h; cases h
  | some j =>
    rw [hj] at h
    obtain ⟨v, h1, h2⟩ := r.get (show ds[j]? = some d from h)
    exact ⟨v, h1, h2⟩
theorem px_ix (hK : X.K = C.S.K) (ho : PB X C κ o fo) (hi : PD X C κ i fi) (hs : PlainIx i := by intro _ _; rfl) : PD X C κ (.Subscript o i pos) (f2 ixD fo fi) := by
  obtain ⟨ta, k1, k2⟩ := ho.ex
  obtain ⟨tb, l1, l2⟩ := hi.bor.ex
  refine ⟨_, pe_ix ix_seq k1 l1 hs, sat_op RD.ok (fun F H Hs s σ x y a b Q ss ra rb hp => ?_) k2 l2⟩
  rw [hK]
  cases b with
  | int i =>
    rw [rb.int]
    cases a with
    | list ds =>
      obtain ⟨p, xs, rfl, h1, r1⟩ := ra.list ss.le
      have hp' : PSt C F H σ (RD C.S) ((DM.opt (L2.atI ds i)) s) Q := hp
      cases hd : L2.atI ds i with
      | none => rw [hd] at hp'; exact hp'.elim
      | some d =>
        rw [hd] at hp'
        obtain ⟨v, h2, rv⟩ := r1.atI hd
        exact .inl ⟨p, xs, i, v, rfl, rfl, h1.sql, h2, hp' v F H .refl ss rv⟩
    | tuple ds =>
      obtain ⟨p, xs, rfl, h1, r1⟩ := ra.tuple ss.le
      have hp' : PSt C F H σ (RD C.S) ((DM.opt (L2.atI ds i)) s) Q := hp
      cases hd : L2.atI ds i with
      | none => rw [hd] at hp'; exact hp'.elim
      | some d =>
        rw [hd] at hp'
        obtain ⟨v, h2, rv⟩ := r1.atI hd
        exact .inr (.inl ⟨p, xs, i, v, rfl, rfl, h1, h2, hp' v F H .refl ss rv⟩)
    | str z =>
      rw [ra.str]
      have hp' : PSt C F H σ (RD C.S) ((if z.length ≤ sizeLine then (DM.opt ((L2.atI z.cps.toList i).map fun c => .str ⟨#[c]⟩) : DM PyData) else DM.fail) s) Q := hp
      by_cases hz : z.length ≤ sizeLine
      · rw [if_pos hz] at hp'
        cases hd : L2.atI z.cps.toList i with
        | none => rw [hd] at hp'; exact hp'.elim
        | some c =>
          rw [hd] at hp'
          exact .inr (.inr ⟨z, i, c, rfl, rfl, hz, hd, hp' _ F H .refl ss (.str _)⟩)
      · rw [if_neg hz] at hp'; exact hp'.elim
    | none => exact hp.elim
    | bool b => exact hp.elim
    | int b => exact hp.elim
    | dict b => exact hp.elim
  | none => cases a <;> exact hp.elim
  | bool b => cases a <;> exact hp.elim
  | str b => cases a <;> exact hp.elim
  | list b => cases a <;> exact hp.elim
  | tuple b => cases a <;> exact hp.elim
  | dict b => cases a <;> exact hp.elim
/-! list * n -/
theorem RpAll.rep {S : Sig} {F : Hp} {vs : List V} {ds : List PyData} (r : RpAll S F vs ds) : ∀ n : Nat, RpAll S F (List.replicate n vs).flatten (List.replicate n ds).flatten
  | 0 => .nil
  | n + 1 => by
    rw [List.replicate_succ, List.replicate_succ, List.flatten_cons, List.flatten_cons]
    exact r.append (RpAll.rep r n)
theorem po_rep (ha : PO X C κ o fo) (hb : PD X C κ i fi) : PO X C κ (.BinOp o .Mult i pos) (f2 repL fo fi) := by
  obtain ⟨ta, k1, k2⟩ := ha.ex
  obtain ⟨tb, l1, l2⟩ := hb.ex
  refine ⟨_, pe_op op_rep k1 l1, fun H0 F H ρ σ s Q hs he hp => k2 H0 F H ρ σ s _ hs he (hp.fst RO.ok fun v d s' F1 H1 st ss r hp1 => l2 H0 F1 H1 ρ σ s' _ ss (he.step st) (hp1.fst RO.ok fun y d2 s2 F2 H2 st2 ss2 r2 hp2 => ?_))⟩
  obtain ⟨a, rfl, o1, _⟩ := r
  have o2 := o1.step st2
  cases d2 with
  | int k =>
    cases r2
    cases d with
    | list ds =>
      have hp3 : Post C.S F2 H2 C.W σ C.er (RO C.S) ((if -(2 ^ 63) ≤ k ∧ k < 2 ^ 63 ∧ ds.length * k.toNat ≤ sizeLine then (pure (.list (List.replicate k.toNat ds).flatten) : DM PyData) else DM.fail) s2) Q := hp2
      by_cases hz : -(2 ^ 63) ≤ k ∧ k < 2 ^ 63 ∧ ds.length * k.toNat ≤ sizeLine
      · rw [if_pos hz] at hp3
        cases o2.c with
        | @lst xs _ h3 h4 => exact ⟨a, k, xs, rfl, rfl, h3, hz.1, hz.2.1, by rw [RpAll.len h4]; exact hz.2.2, fun l hl => hp3 _ _ _ (.own hl) (ss2.own hl) (ss2.newL hl (h4.rep _))⟩
      · rw [if_neg hz] at hp3; exact hp3.elim
    | none => exact hp2.elim
    | bool b => exact hp2.elim
    | int b => exact hp2.elim
    | str b => exact hp2.elim
    | tuple b => exact hp2.elim
    | dict b => exact hp2.elim
  | none => cases d <;> exact hp2.elim
  | bool b => cases d <;> exact hp2.elim
  | str b => cases d <;> exact hp2.elim
  | list b => cases d <;> exact hp2.elim
  | tuple b => cases d <;> exact hp2.elim
  | dict b => cases d <;> exact hp2.elim
/-! repr -/
mutual
theorem noDict_of_plain : ∀ d : PyData, d.plain = true → d.hasDict = false
  | .none, _ => rfl
  | .bool _, _ => rfl
  | .int _, _ => rfl
  | .str _, _ => rfl
  | .list ds, h => by simp only [PyData.hasDict]; exact noDict_of_plainAll ds (by simpa only [PyData.plain] using h)
  | .tuple ds, h => by simp only [PyData.hasDict]; exact noDict_of_plainAll ds (by simpa only [PyData.plain] using h)
  | .dict ds, h => by simp [PyData.plain] at h
theorem noDict_of_plainAll : ∀ ds : List PyData, PyData.plainAll ds = true → PyData.hasDictAll ds = false
  | [], _ => rfl
  | d :: ds, h => by
    have q : d.plain = true ∧ PyData.plainAll ds = true := by simpa only [PyData.plainAll, Bool.and_eq_true] using h
    simp only [PyData.hasDictAll, noDict_of_plain d q.1, noDict_of_plainAll ds q.2, Bool.or_false]
end
def reprOk (d : PyData) : Bool := d.plain && d.showable && decide (d.shown.length ≤ sizeLine) && decide (d.depth ≤ 60)
def reprD (ds : List PyData) : DM PyData := match ds with
  | [d] => if reprOk d = true then pure (.str d.shown) else DM.fail
  | _ => DM.fail
def rReprP (K : PySem.W.Frag) : List V → Hp → VK → Prop := fun xs H Q => ∃ v d, xs = [v] ∧ Dp K H v d ∧ reprOk d = true ∧ Q (.str d.shown) H
theorem call_reprP (hg : X.A.guards = some []) (hu : X.A.units + 64 < cLine) : CallR X (.builtin "repr") (rReprP X.K) := by
  intro pins s σ H xs us Q I r h
  obtain ⟨v, d, rfl, hd, ho, q⟩ := h
  obtain ⟨u, rfl, ru⟩ := r.one
  obtain ⟨as, rd⟩ := Dp.reads I d v u hd ru
  have ho' := ho
  unfold reprOk at ho'
  simp only [Bool.and_eq_true, decide_eq_true_eq] at ho'
  obtain ⟨⟨⟨h1, h2⟩, h3⟩, h4⟩ := ho'
  have fin : ∀ h' t tk, (∀ b o, s.heap.get? b = some o → h'.get? b = some o) → EP X pins σ Q (.str d.shown t) { s with heap := h', toks := tk } := fun h' t tk k => ⟨.str d.shown, H, I.kept k, ⟨t, rfl⟩, q⟩
  have big : ∀ {a : Addr} {as : List Addr} {d : PyData}, Reads s.heap (.ref a) d as → d.plain = true → d.showable = true → d.shown.length ≤ sizeLine → d.depth ≤ 60 → (∀ h' t tk, (∀ b o, s.heap.get? b = some o → h'.get? b = some o) → EP X pins σ Q (.str d.shown t) { s with heap := h', toks := tk }) →
      wpAny (model X.prog X.w) X.A (call (.builtin "repr") [.ref a]) (EP X pins σ Q) X.xe s := by
    intro a as d rd p1 p2 p3 p4 f
    exact repr_of_reads' rd p2 (fun e => by rw [noDict_of_plain d p1] at e; cases e) hg (by omega) (fun _ _ e => e) (fun h' t tk k => f h' t tk k) p3
  have sh : ∀ (y : Str), d.shown = y → ∀ h' t tk, (∀ b o, s.heap.get? b = some o → h'.get? b = some o) → EP X pins σ Q (.str y t) { s with heap := h', toks := tk } := fun y e h' t tk k => by
    rw [← e]; exact fin h' t tk k
  cases rd with
  | none => exact PySem.P.repr_of_none (sh _ PyData.shown_none s.heap _ _ fun _ _ e => e)
  | bool b => exact PySem.P.repr_of_bool (sh _ (PyData.shown_bool b) s.heap _ _ fun _ _ e => e)
  | int i t => exact PySem.P.repr_of_int (by simpa [PyData.showable] using h2) (sh _ (PyData.shown_int i) s.heap _ _ fun _ _ e => e)
  | str x t => exact PySem.P.repr_of_str (sh _ (PyData.shown_str x) s.heap _ _ fun _ _ e => e) (by rw [PyData.shown_str] at h3; exact h3)
  | list a1 a2 a3 a4 => exact big (.list a1 a2 a3 a4) h1 h2 h3 h4 fin
  | tuple a1 a2 a3 a4 => exact big (.tuple a1 a2 a3 a4) h1 h2 h3 h4 fin
  | dict a1 a2 a3 a4 a5 => simp [PyData.plain] at h1
theorem calld_repr (hK : X.K = C.S.K) (hg : X.A.guards = some []) (hu : X.A.units + 64 < cLine) : CallD X C (.builtin "repr") (RD C.S) reprD := by
  refine ⟨_, call_reprP hg hu, fun F H s σ vs ds Q ss r hp => ?_⟩
  rw [hK]
  match ds, r with
  | [], _ => exact hp.elim
  | [d], .cons r1 .nil =>
    have hp' : PSt C F H σ (RD C.S) ((if reprOk d = true then (pure (.str d.shown) : DM PyData) else DM.fail) s) Q := hp
    by_cases hz : reprOk d = true
    · rw [if_pos hz] at hp'
      have hz' := hz
      unfold reprOk at hz'
      simp only [Bool.and_eq_true, decide_eq_true_eq] at hz'
      exact ⟨_, d, rfl, r1.dp ss.le hz'.1.1.1, hz, hp' _ F H .refl ss (.str _)⟩
    · rw [if_neg hz] at hp'; exact hp'.elim
  | d :: _ :: _, _ => exact hp.elim
end
end DL

set_option Elab.async false
set_option autoImplicit false
set_option linter.all false
set_option maxRecDepth 100000
set_option maxHeartbeats 2000000
/-! a container of ours is data from now on -/
namespace DL
open PySem PySem.Spec PyProof.Rows L2
theorem u64 {k : Nat} {A : Around} (r : Room k A) : A.units + 64 < cLine := by have := r.un; omega
theorem u2 {k : Nat} {A : Around} (r : Room k A) : A.units + 2 < cLine := by have := r.un; omega
theorem u1 {k : Nat} {A : Around} (r : Room k A) : A.units + 1 < cLine := by have := r.un; omega
theorem Ctn.mono {S : Sig} {F F' H : Hp} {a : Addr} {d : PyData} (h : hle F F') (c : Ctn S F H a d) : Ctn S F' H a d := by
  cases c with
  | lst h1 h2 => exact .lst h1 (RpAll.mono h.rle _ _ h2)
  | dK h1 h2 => exact .dK h1 (RpKs.mono h.rle _ _ h2)
  | dT h1 h2 => exact .dT h1 (RpTs.mono h.rle _ _ h2)
theorem EnvR.frzAt {S : Sig} {H0 F H : Hp} {κ : List Bool} {ρ : Sl} {σ : Stk} {s : Drw} (i : Nat) (he : EnvR S H0 F H κ ρ σ) (ss : Stt S F H s) : ∃ F', hle F F' ∧ (∀ b o, H0 b = some o → F' b = F b) ∧ Stt S F' H s ∧ EnvR S H0 F' H (κ.set i false) ρ σ := by
  have kne : ∀ j : Nat, j ≠ i → (κ.set i false)[j]? = κ[j]? := fun j hj => List.getElem?_set_ne (Ne.symm hj)
  have kii : (κ.set i false)[i]? ≠ some true := fun z => by
    by_cases hi : i < κ.length
    · rw [List.getElem?_set_self hi] at z; cases z
    · rw [List.getElem?_eq_none (by simpa using hi)] at z; cases z
  by_cases hk : κ[i]? = some true
  · cases hρ : ρ[i]? with
    | none => exact ⟨F, hle.refl _, fun _ _ _ => rfl, ss, ⟨he.len, fun j d hj h => by
        by_cases e : j = i
        · subst e; rw [hρ] at h; cases h
        · exact he.dat j d (by rw [← kne j e]; exact hj) h, fun j d hj h => by
        by_cases e : j = i
        · subst e; exact absurd hj kii
        · exact he.own j d (by rw [← kne j e]; exact hj) h, fun j l a d e hj hl => by
        by_cases e1 : j = i
        · subst e1; exact absurd hj kii
        · by_cases e2 : l = i
          · subst e2; exact absurd hl kii
          · exact he.apart j l a d e (by rw [← kne j e1]; exact hj) (by rw [← kne l e2]; exact hl)⟩⟩
    | some o =>
      cases o with
      | none => exact ⟨F, hle.refl _, fun _ _ _ => rfl, ss, ⟨he.len, fun j d hj h => by
          by_cases e : j = i
          · subst e; rw [hρ] at h; cases h
          · exact he.dat j d (by rw [← kne j e]; exact hj) h, fun j d hj h => by
          by_cases e : j = i
          · subst e; exact absurd hj kii
          · exact he.own j d (by rw [← kne j e]; exact hj) h, fun j l a d e hj hl => by
          by_cases e1 : j = i
          · subst e1; exact absurd hj kii
          · by_cases e2 : l = i
            · subst e2; exact absurd hl kii
            · exact he.apart j l a d e (by rw [← kne j e1]; exact hj) (by rw [← kne l e2]; exact hl)⟩⟩
      | some d0 =>
        obtain ⟨a, ha, oa, h0⟩ := he.own i d0 hk hρ
        obtain ⟨F', f1, f2, f3, f4⟩ := freeze oa ss
        refine ⟨F', f1, fun b o hb => f2 b (fun z => by subst z; rw [h0] at hb; cases hb), f3, ⟨he.len, fun j d hj h => ?_, fun j d hj h => ?_, fun j l b d e hj hl => ?_⟩⟩
        · by_cases e : j = i
          · subst e
            rw [hρ] at h
            cases h
            exact ⟨_, ha, f4⟩
          · obtain ⟨v, h1, h2⟩ := he.dat j d (by rw [← kne j e]; exact hj) h
            exact ⟨v, h1, Rp.mono f1.rle _ _ h2⟩
        · by_cases e : j = i
          · subst e; exact absurd hj kii
          · have hj' : κ[j]? = some true := by rw [← kne j e]; exact hj
            obtain ⟨b, h1, h2, h3⟩ := he.own j d hj' h
            have hb : b ≠ a := fun z => by subst z; exact e (he.apart j i b d d0 hj' hk h hρ h1 ha)
            exact ⟨b, h1, ⟨h2.c.mono f1, by rw [f2 b hb]; exact h2.fa, h2.nd⟩, h3⟩
        · by_cases e1 : j = i
          · subst e1; exact absurd hj kii
          · by_cases e2 : l = i
            · subst e2; exact absurd hl kii
            · exact he.apart j l b d e (by rw [← kne j e1]; exact hj) (by rw [← kne l e2]; exact hl)
  · have ke : ∀ j : Nat, (κ.set i false)[j]? = some true ↔ κ[j]? = some true := fun j => by
      by_cases e : j = i
      · subst e; exact ⟨fun z => absurd z kii, fun z => absurd z hk⟩
      · rw [kne j e]
    exact ⟨F, hle.refl _, fun _ _ _ => rfl, ss, ⟨he.len, fun j d hj h => he.dat j d (fun z => hj ((ke j).mpr z)) h, fun j d hj h => he.own j d ((ke j).mp hj) h, fun j l a d e hj hl => he.apart j l a d e ((ke j).mp hj) ((ke l).mp hl)⟩⟩
section
variable {X : Cx} {C : Cf} {R : Rel V PyData} {κ κ1 κ' : List Bool} {e : Expr} {st : Stmt} {rest : List Stmt} {pos : Pos} {f : Sl → DM PyData} {g h : Sl → DM Fl}
theorem pssd_frz (i : Nat) (h : PSsd X C R (κ.set i false) κ' rest g) : PSsd X C R κ κ' rest g := by
  obtain ⟨t, h1, h2⟩ := h.ex
  refine ⟨t, h1, fun F0 H0 F H ρ σ s D hs st he hp => ?_⟩
  obtain ⟨F', f1, f2, f3, f4⟩ := he.frzAt i hs
  exact h2 F0 H0 F' H ρ σ s D f3 ⟨st.le.trans f1, fun b o hb => (f2 b o hb).trans (st.new b o hb), st.keep, st.there⟩ f4 hp
/-- it ends by neither break nor continue -/
def NoBC (g : Sl → DM Fl) : Prop := ∀ ρ s, (∀ ρ' s', g ρ s ≠ .ok (.brk ρ') s') ∧ (∀ ρ' s', g ρ s ≠ .ok (.ct ρ') s')
theorem pssd_consF (hb : NoBC g) (h1 : PSd X C R κ κ1 st g) (h2 : PSsd X C R κ1 κ' rest h) : PSsd X C R κ κ' (st :: rest) (seqF g h) :=
  let ⟨_, a, b⟩ := h1.ex; let ⟨_, c, d⟩ := h2.ex; ⟨_, pss_cons a c, seq_sat b d fun ρ s => .inl (hb ρ s)⟩
theorem nb_bnd {α : Type} {x : Sl → DM α} {k : Sl → α → DM Fl} (h : ∀ ρ a s, (∀ ρ' s', k ρ a s ≠ .ok (.brk ρ') s') ∧ (∀ ρ' s', k ρ a s ≠ .ok (.ct ρ') s')) : NoBC (fun ρ => x ρ >>= k ρ) := fun ρ s => by
  have e : (x ρ >>= k ρ) s = DM.bnd (x ρ) (k ρ) s := rfl
  constructor
  · intro ρ' s' z
    obtain ⟨a, s1, _, h2⟩ := bnd_ok z
    exact (h ρ a s1).1 _ _ h2
  · intro ρ' s' z
    obtain ⟨a, s1, _, h2⟩ := bnd_ok z
    exact (h ρ a s1).2 _ _ h2
theorem nb_nx {ρ : Sl} {s : Drw} : (∀ ρ' s', (pure (.nx ρ) : DM Fl) s ≠ .ok (.brk ρ') s') ∧ (∀ ρ' s', (pure (.nx ρ) : DM Fl) s ≠ .ok (.ct ρ') s') := ⟨(fun _ _ z => nomatch z), (fun _ _ z => nomatch z)⟩
theorem nb_asgO {i : Nat} : NoBC (asgO i f) := nb_bnd fun ρ a s => nb_nx
theorem nb_bnd1 {α : Type} {x : DM α} {k : α → DM Fl} {s : Drw} (h : ∀ a s, (∀ ρ' s', k a s ≠ .ok (.brk ρ') s') ∧ (∀ ρ' s', k a s ≠ .ok (.ct ρ') s')) : (∀ ρ' s', (x >>= k) s ≠ .ok (.brk ρ') s') ∧ (∀ ρ' s', (x >>= k) s ≠ .ok (.ct ρ') s') := by
  constructor
  · intro ρ' s' z
    obtain ⟨a, s1, _, h2⟩ := bnd_ok z
    exact (h a s1).1 _ _ h2
  · intro ρ' s' z
    obtain ⟨a, s1, _, h2⟩ := bnd_ok z
    exact (h a s1).2 _ _ h2
theorem nb_fail {s : Drw} : (∀ ρ' s', (DM.fail : DM Fl) s ≠ .ok (.brk ρ') s') ∧ (∀ ρ' s', (DM.fail : DM Fl) s ≠ .ok (.ct ρ') s') := ⟨(fun _ _ z => nomatch z), (fun _ _ z => nomatch z)⟩
theorem nb_asgF {h : PyData → Sl → Option Sl} : NoBC (asgF f h) := nb_bnd fun ρ a s => nb_bnd1 fun _ _ => nb_nx
theorem nb_exprF : NoBC (exprF f) := nb_bnd fun ρ a s => nb_nx
theorem nb_appF {i : Nat} : NoBC (appF i f) := nb_bnd fun ρ a s => nb_bnd1 fun _ _ => by
  split
  · exact nb_nx
  · exact nb_fail
theorem nb_loop {asg : PyData → Sl → Option Sl} {body : Sl → DM Fl} : ∀ (ds : List PyData) (ρ : Sl) (s : Drw), (∀ ρ' s', loopF asg body ds ρ s ≠ .ok (.brk ρ') s') ∧ (∀ ρ' s', loopF asg body ds ρ s ≠ .ok (.ct ρ') s')
  | [], _, _ => nb_nx
  | d :: ds, ρ, s => nb_bnd1 fun ρ1 s1 => nb_bnd1 fun r s2 => by
    cases r with
    | nx ρ2 => exact nb_loop ds ρ2 s2
    | ct ρ2 => exact nb_loop ds ρ2 s2
    | brk ρ2 => exact nb_nx
    | ret d => exact ⟨(fun _ _ z => nomatch z), (fun _ _ z => nomatch z)⟩
theorem nb_forF {fi : Sl → DM (List PyData)} {asg : PyData → Sl → Option Sl} {body : Sl → DM Fl} : NoBC (forF fi asg body) := nb_bnd fun ρ a s => nb_loop a ρ s
end
end DL

set_option Elab.async false
set_option autoImplicit false
set_option linter.all false
set_option maxRecDepth 100000
set_option maxHeartbeats 2000000
/-! a law's lay: the draw, errors -/
namespace DL
open PySem PySem.Spec PyProof.Rows L2
structure ErF (P : Program) (K : PySem.W.Frag) (mg : Str → Option Value) (Es : List ErrC) (c : ErrC) (fld : Str) : Prop where
  mem : c ∈ Es
  f : c.fld = some fld
  tx : ErrTx K mg c
  T : ∃ fI cc, DE.ErrTxt P K fld c.C fI cc
structure ErB (K : PySem.W.Frag) (mg : Str → Option Value) (Es : List ErrC) (c : ErrC) : Prop where
  mem : c ∈ Es
  f : c.fld = none
  tx : ErrTx K mg c
  T : BaseTxt K c.C
/-- what is special: the draw, the errors, more -/
def laySp (K : PySem.W.Frag) (Es : List ErrC) (more : Hp → V → PyData → Prop) (da : Option (Addr × Addr × Addr)) (F : Hp) (v : V) (p : PyData) : Prop :=
  (p = .none ∧ ∃ q, da = some q ∧ v = .ref q.1) ∨ EsSp K Es F v p ∨ more F v p
structure MoreOk (more : Hp → V → PyData → Prop) : Prop where
  mono : ∀ {F F' : Hp} {v : V} {p : PyData}, rle F F' → more F v p → more F' v p
  nn : ∀ F v, ¬ more F v .none
  ne : ∀ F v nm a, ¬ more F v (errD nm a)
def layOf (K : PySem.W.Frag) (Es : List ErrC) (more : Hp → V → PyData → Prop) (ok : MoreOk more) (erf : Option (Addr × Addr × Addr) → Hp → Err → Value → Option Addr → Prop) : Lay where
  K := K
  fam := fun da => ⟨K, da, laySp K Es more da, fun h x => by
    rcases x with x | x | x
    · exact .inl x
    · exact .inr (.inl (x.mono h))
    · exact .inr (.inr (ok.mono h x))⟩
  erf := erf
  hK := fun _ => rfl
theorem noMore : MoreOk (fun _ _ _ => False) := ⟨fun _ h => h, fun _ _ h => h, fun _ _ _ _ h => h⟩
section
variable {K : PySem.W.Frag} {Es : List ErrC} {more : Hp → V → PyData → Prop} {ok : MoreOk more} {erf : Option (Addr × Addr × Addr) → Hp → Err → Value → Option Addr → Prop} {da : Option (Addr × Addr × Addr)}
theorem lay_dr : DrSp ((layOf K Es more ok erf).fam da) := fun F v x => by
  rcases x with ⟨_, q, h1, h2⟩ | ⟨c, a, e, _, z, _⟩ | x
  · exact ⟨q, h1, h2⟩
  · cases z
  · exact absurd x (ok.nn F v)
theorem lay_sp : ∀ F v q, EsSp K Es F v q → ((layOf K Es more ok erf).fam da).sp F v q := fun F v q x => .inr (.inl x)
theorem lay_in {X : Cx} {W : WX} (hK : X.K = K) (hc : ∀ c, c ∈ Es → L2.ExcC K c.C) : ErrIn X ((layOf K Es more ok erf).cf da W) Es where
  inv := fun F v nm a x => by
    rw [hK]
    rcases x with ⟨z, _⟩ | x | x
    · cases z
    · exact x
    · exact absurd x (ok.ne F v nm a)
  cls := fun c hm => by rw [hK]; exact hc c hm
end
section
variable {X : Cx} {C : Cf} {κ : List Bool} {e : Expr} {f : Sl → DM PyData} {pos p : Pos} {Es : List ErrC} {c : ErrC}
theorem pd_errB (x : ErB X.K X.mg Es c) (hK : X.K = C.S.K) (hsp : ∀ F v q, EsSp X.K Es F v q → C.S.sp F v q) (ha : PD X C κ e f) (hg : Gl X c.nm := by rfl) (hs : starEach [e] X.env = (false, eval e X.env) :: starEach [] X.env := by rfl) :
    PD X C κ (.Call (.Name c.nm p) [e] [] pos) (fMk c.nm f) := pd_mkB hK hsp x.mem x.f x.tx x.T ha hg hs
theorem pd_errF {fld : Str} {k : Nat} (x : ErF X.prog X.K X.mg Es c fld) (hK : X.K = C.S.K) (hsp : ∀ F v q, EsSp X.K Es F v q → C.S.sp F v q) (hr : Room (k + 1) X.A) (ha : PD X C κ e f) (hg : Gl X c.nm := by rfl)
    (hs : starEach [e] X.env = (false, eval e X.env) :: starEach [] X.env := by rfl) : PD X C κ (.Call (.Name c.nm p) [e] [] pos) (fMk c.nm f) := by
  obtain ⟨fI, cc, T⟩ := x.T
  exact pd_mkF hK hsp x.mem x.f x.tx T (hr.mono (Nat.succ_le_succ (Nat.zero_le k))) ha hg hs
theorem pd_errK {fld : Str} {k : Nat} {kpos : Pos} (x : ErF X.prog X.K X.mg Es c fld) (hK : X.K = C.S.K) (hsp : ∀ F v q, EsSp X.K Es F v q → C.S.sp F v q) (hr : Room (k + 1) X.A) (ha : PD X C κ e f) (hg : Gl X c.nm := by rfl)
    (hall : (backToKw pos (keywordEach [⟨some fld, e, kpos⟩] X.env)).all (·.1.isSome) = true := by rfl) (hks : (backToKw pos (keywordEach [⟨some fld, e, kpos⟩] X.env)).filterMap (·.1) = [fld] := by rfl)
    (hpl : ((backTo pos (starEach [] X.env)).any (·.1) || (backToKw pos (keywordEach [⟨some fld, e, kpos⟩] X.env)).any (·.1.isNone)) = false := by rfl) : PD X C κ (.Call (.Name c.nm p) [] [⟨some fld, e, kpos⟩] pos) (fMk c.nm f) := by
  obtain ⟨fI, cc, T⟩ := x.T
  exact pd_mkK hK hsp x.mem x.f x.tx T (hr.mono (Nat.succ_le_succ (Nat.zero_le k))) ha hg hall hks hpl
end
end DL

set_option Elab.async false
set_option autoImplicit false
set_option linter.all false
set_option maxRecDepth 100000
set_option maxHeartbeats 2000000
namespace DL
open PySem PySem.Spec PyProof.Rows L2
/-- a built-in class's name, as a value -/
theorem pe_tyG {X : Cx} {x : Str} {T : String} {pos : Pos} (hg : Gl X x) (hm : X.mg x = none) (hb : bootBuiltins x = some (.type T) := by decide +kernel) (hn : x ≠ "__name__" := by decide) (hd : (x == ("__debug__" : Str)) = false := by decide) : PE X (.Name x pos) (tC (.ty T)) :=
  ⟨fun pins s σ H Q I h => ld_blt I hg hm hb ⟨.ty T, H, I, rfl, h⟩ hn hd⟩
end DL

set_option Elab.async false
set_option autoImplicit false
set_option linter.all false
set_option maxRecDepth 100000
set_option maxHeartbeats 2000000
/-! _law_begin: the draw laid; the law that begins so -/
namespace DL
open PySem PySem.Spec PyProof.Rows L2
def encDr (gs cs : List Int) : PyData := .tuple [.list (gs.map PyData.int), .list (cs.map PyData.int)]
structure DrNew (S : Sig) (H F' H' : Hp) (v : V) (gs cs : List Int) (dd g c : Addr) : Prop where
  ev : v = .ref dd
  nd : H dd = none
  ng : H g = none
  nc : H c = none
  hd : H' dd = some (.dK (drwK g c ⟨gs, 0, cs, 0⟩))
  hg : H' g = some (.lst (gs.map V.int))
  hc : H' c = some (.lst (cs.map V.int))
  fd : F' dd = none
  fg : F' g = none
  fc : F' c = none
  id : ¬ isDrw S dd
  ig : ¬ isDrw S g
  ic : ¬ isDrw S c
  n1 : dd ≠ g
  n2 : dd ≠ c
  n3 : g ≠ c
def RDr (S : Sig) : Rel V PyData := fun H F' H' v d => ∃ gs cs dd g c, d = encDr gs cs ∧ DrNew S H F' H' v gs cs dd g c
theorem RDr.ok {S : Sig} : Rel.Ok S (RDr S) := ⟨fun ⟨gs, cs, dd, g, c, e, x⟩ st => ⟨gs, cs, dd, g, c, e, ⟨x.ev, x.nd, x.ng, x.nc, st.keep _ _ x.hd x.id, st.keep _ _ x.hg x.ig, st.keep _ _ x.hc x.ic,
    by rw [st.new _ _ x.hd]; exact x.fd, by rw [st.new _ _ x.hg]; exact x.fg, by rw [st.new _ _ x.hc]; exact x.fc, x.id, x.ig, x.ic, x.n1, x.n2, x.n3⟩⟩,
  fun {H H1 F2 H2 v d} k ⟨gs, cs, dd, g, c, e, x⟩ => by
    have nn : ∀ b, H1 b = none → H b = none := fun b hb => by
      cases q : H b with
      | none => rfl
      | some u => obtain ⟨u', q'⟩ := k b u q; rw [hb] at q'; cases q'
    exact ⟨gs, cs, dd, g, c, e, ⟨x.ev, nn _ x.nd, nn _ x.ng, nn _ x.nc, x.hd, x.hg, x.hc, x.fd, x.fg, x.fc, x.id, x.ig, x.ic, x.n1, x.n2, x.n3⟩⟩⟩
def intsOf : List PyData → Option (List Int)
  | [] => some []
  | .int i :: r => (intsOf r).map (i :: ·)
  | _ => none
theorem intsOf_map : ∀ {ds : List PyData} {ns : List Int}, intsOf ds = some ns → ds = ns.map PyData.int
  | [], _, h => by cases h; rfl
  | d :: r, ns, h => by
    cases d with
    | int b =>
      obtain ⟨cs, h1, h2⟩ := Option.map_eq_some_iff.mp (show (intsOf r).map (b :: ·) = some ns from h)
      subst h2
      rw [intsOf_map h1]; rfl
    | none => cases h
    | bool i => cases h
    | str d => cases h
    | dict d => cases h
    | list d => cases h
    | tuple d => cases h
theorem intsOf_ints : ∀ (ns : List Int), intsOf (ns.map PyData.int) = some ns
  | [] => rfl
  | n :: ns => by show (intsOf (ns.map PyData.int)).map (n :: ·) = _; rw [intsOf_ints ns]; rfl
theorem RpAll.intsV {S : Sig} {F : Hp} : ∀ {ns : List Int} {xs : List V}, RpAll S F xs (ns.map PyData.int) → xs = ns.map V.int
  | [], _, r => by cases r; rfl
  | n :: ns, _, r => by
    cases r with
    | cons h t => cases h; rw [RpAll.intsV t]; rfl
def listInts (d : PyData) : Option (List Int) := match d with
  | .list ds => intsOf ds
  | _ => none
theorem listInts_some {d : PyData} {ns : List Int} (h : listInts d = some ns) : d = .list (ns.map PyData.int) := by
  unfold listInts at h
  split at h
  · rw [intsOf_map h]
  · cases h
def retDr (i : Nat) (fc : Sl → DM PyData) : Sl → DM Fl := fun ρ => DM.opt (listAt i ρ) >>= fun gd => DM.opt (intsOf gd) >>= fun gs => fc ρ >>= fun d => DM.opt (listInts d) >>= fun cs => pure (.ret (encDr gs cs))
section
variable {X : Cx} {C : Cf} {κ κ' : List Bool} {e : Expr} {fc : Sl → DM PyData} {pos p1 p2 p3 p4 p5 p6 p7 p8 : Pos} {j1 j2 j3 j4 j5 j6 : _}
theorem psd_retDr (i : Nat) {x : Str} (hv : PE X (.Name x p5) (tVar i)) (hk : κ[i]? = some true) (hc : PO X C κ e fc) :
    PSd X C (RDr C.S) κ κ' (.Return (some (.Dict [some (.Constant (.str "great") j1 p1), some (.Constant (.str "rest") j2 p2), some (.Constant (.str "cells") j3 p3), some (.Constant (.str "turn") j4 p4)] [.Name x p5, .Constant (.int 0) j5 p6, e, .Constant (.int 0) j6 p7] p8)) pos) (retDr i fc) := by
  obtain ⟨t, h1, h2⟩ := hc.ex
  refine ⟨_, ps_ret (pe_disp (pps_cons pe_str hv (pps_cons pe_str pe_int (pps_cons pe_str h1 (pps_cons pe_str pe_int pps_nil)))) rfl rfl (fun z => nomatch z) (show 4 ≤ 15 by decide)), fun F0 H0 F H ρ σ s D hs st he hp => ?_⟩
  obtain ⟨gd, hg, hp1⟩ := hp.opt
  obtain ⟨gs, hgs, hp2⟩ := hp1.opt
  have eg := intsOf_map hgs
  subst eg
  obtain ⟨g, xs, hσ, hG, rG, nG, fG⟩ := own_list he hk hg
  obtain ⟨g', hσ', oG, h0g⟩ := he.own i _ hk (listAt_some hg)
  have e1 : g' = g := by rw [hσ] at hσ'; cases hσ'; rfl
  subst e1
  intro p hp0
  have stp : Stp C.S F H F (upd H p (.dK [])) := .own hp0
  have ssp := hs.own (o := .dK []) hp0
  have gp : g' ≠ p := fun z => by subst z; rw [hG] at hp0; cases hp0
  have fp := hs.fnone hp0
  have ndp := hs.notDrw hp0
  refine ⟨_, hσ, h2 H0 F _ ρ σ s _ ssp (he.step stp) (hp2.expr (st.trans stp) fun v d s' F1 H1 st1 ss r hp3 => ?_)⟩
  obtain ⟨cs, hcs, hp4⟩ := hp3.opt
  have ec := listInts_some hcs
  subst ec
  obtain ⟨c, rfl, oc, nc⟩ := r
  have h1p : H1 p = some (.dK []) := st1.keep _ _ upd_same ndp
  have h1g : H1 g' = some (.lst xs) := st1.keep _ _ (by rw [upd_ne gp]; exact hG) nG
  have cp : c ≠ p := fun z => by subst z; rw [upd_same] at nc; cases nc
  have cg : c ≠ g' := fun z => by subst z; rw [upd_ne gp, hG] at nc; cases nc
  have xg := RpAll.intsV rG
  subst xg
  cases oc.c with
  | @lst ys _ hc1 hc2 =>
    have xc := RpAll.intsV hc2
    subst xc
    refine ⟨h1p, [(.inr "great", .ref g'), (.inr "rest", .int 0), (.inr "cells", .ref c), (.inr "turn", .int 0)], rfl, (show 4 ≤ 15 by decide), ?_⟩
    have stA := (Stp.trans (Stp.trans st stp) st1)
    have h0p : H0 p = none := by
      cases q : H0 p with
      | none => rfl
      | some u => obtain ⟨u', q'⟩ := st.there p u q; rw [hp0] at q'; cases q'
    have h0c : H0 c = none := by
      cases q : H0 c with
      | none => rfl
      | some u =>
        obtain ⟨u', q'⟩ := st.there c u q
        rw [upd_ne cp, q'] at nc; cases nc
    have fp1 : F1 p = none := by rw [st1.new _ _ upd_same]; exact fp
    have stB : Stp C.S F0 H0 F1 (upd H1 p (.dK (drwK g' c ⟨gs, 0, cs, 0⟩))) := ⟨stA.le, stA.new, fun a o ha hn => by rw [upd_ne (ne_of_none ha h0p)]; exact stA.keep a o ha hn, fun a o ha => by rw [upd_ne (ne_of_none ha h0p)]; exact stA.there a o ha⟩
    have ssB : Stt C.S F1 (upd H1 p (.dK (drwK g' c ⟨gs, 0, cs, 0⟩))) s' := ⟨fun a u ha => by rw [upd_ne (ne_of_none ha fp1)]; exact ss.le a u ha, fun q hq => by
      have d := ss.drw q hq
      have n1 : q.1 ≠ p := fun z => ndp ⟨q, hq, .inl z.symm⟩
      have n2 : q.2.1 ≠ p := fun z => ndp ⟨q, hq, .inr z.symm⟩
      exact ⟨by rw [upd_ne n1]; exact d.hd, by rw [upd_ne n2]; exact d.hg, d.hc, d.ne, d.fd, d.fg⟩⟩
    exact hp4.rt _ s' rfl _ F1 _ ssB stB ⟨gs, cs, p, g', c, rfl, ⟨rfl, h0p, h0g, h0c, upd_same, by rw [upd_ne gp]; exact h1g, by rw [upd_ne cp]; exact hc1, fp1, by rw [st1.new g' _ (by rw [upd_ne gp]; exact hG)]; exact fG, oc.fa, ndp, nG, oc.nd, Ne.symm gp, Ne.symm cp, Ne.symm cg⟩⟩
end
/-! ### the law -/
def spLaw (K : PySem.W.Frag) : Sp := fun vs H Q _ => ∃ (a : Addr) (ns : List Int), vs = [.ref a] ∧ Only H ∧ SqE K H a (ns.map V.int) ∧ ns.length ≤ 63 ∧ ∀ H', Q (.bl true) H'
section
variable {X : Cx} {L : Lay} {κ κ' : List Bool} {W : WX} {rest : List Stmt} {g : Sl → DM Fl} {R : RelS}
theorem pss_can (h : ∀ da, PSsd X (L.cf da W) (R (L.fam da)) κ κ' rest g) : PSs X rest (fun D σ H => ∃ da F0 H0 F ρ s, Stt (L.fam da) F H s ∧ Stp (L.fam da) F0 H0 F H ∧ EnvR (L.fam da) H0 F H κ ρ σ ∧ SPost (L.cf da W) (R (L.fam da)) κ' F0 H0 (g ρ s) D) := by
  refine ⟨fun pins s σ H D I q => ?_⟩
  obtain ⟨da, F0, H0, F, ρ, s0, h1, h2, h3, h4⟩ := q
  obtain ⟨t, t1, t2⟩ := (h da).ex
  exact t1.run pins s σ H D I (t2 F0 H0 F H ρ σ s0 D h1 h2 h3 h4)
end
section
variable {P : Program} {w : World} {mg : Str → Option Value} {base : Heap} {L : Lay} {x qual script dr : Str} {params : Arguments} {rest : List Stmt} {e1 : Expr} {p1 pos1 : Pos} {scope : Scope} {f : Addr} {fd : FuncData} {N : List Str} {k : Nat} {κ κ' : List Bool} {f1 : Sl → DM PyData} {g : Sl → DM Fl}
theorem law_ok (i : Nat) (F : FunD L.K x qual params (.Assign [.Name dr p1] e1 pos1 :: rest) scope [] [] f fd) (sc : FnScope N [script] scope) (hi : N[i]? = some dr) (hi0 : i ≠ 0) (hx : Loc scope dr) (hκ : ∀ j, j < 1 → κ[j]? ≠ some true) (hκi : κ[i]? ≠ some true)
    (hda : ∀ da, (L.fam da).da = da) (hdr : ∀ p F, (L.fam (some p)).sp F (.ref p.1) .none)
    (hb1 : ∀ (cdv : Value) (A : Around) (outer : List Env) (s : Shared) (H : Hp) (E : XK), Room k (A.deeper (envOfC qual scope s.heap.objs.size f cdv)) → A.guards = some [] →
      PX (cxOf (L2.CX P w) P w L.K mg base N qual scope f cdv A outer s H E) (L.cf none fun cls d _ H' => E cls d H') κ (RDr (L.fam none)) (PE (cxOf (L2.CX P w) P w L.K mg base N qual scope f cdv A outer s H E) e1) f1)
    (hsw : ∀ (cdv : Value) (A : Around) (outer : List Env) (s : Shared) (H : Hp) (E : XK), swapsWith e1 (some (.Name dr p1)) pos1.line (cxOf (L2.CX P w) P w L.K mg base N qual scope f cdv A outer s H E).env = pure false)
    (hb2 : ∀ (cdv : Value) (A : Around) (outer : List Env) (s : Shared) (H : Hp) (E : XK) (da : Option (Addr × Addr × Addr)), Room k (A.deeper (envOfC qual scope s.heap.objs.size f cdv)) → A.guards = some [] →
      PSsd (cxOf (L2.CX P w) P w L.K mg base N qual scope f cdv A outer s H E) (L.cf da fun cls d _ H' => E cls d H') (RD (L.fam da)) κ κ' rest g)
    (hm : ∀ ns : List Int, ns.length ≤ 63 → ∃ gs cs s' s2, f1 (slots N.length [.list (ns.map PyData.int)]) ⟨[], 0, [], 0⟩ = .ok (encDr gs cs) s' ∧ g ((slots N.length [.list (ns.map PyData.int)]).set i (some drwD)) ⟨gs, 0, cs, 0⟩ = .ok (.ret (.bool true)) s2) :
    FnG P w L.K mg base (L2.CX P w) (k + 1) f fd [script] (spLaw L.K) := by
  refine FnG.of F sc (fun vs H Q E h => ?_) (fun cdv A outer s H vs Q E hr hgd h => ?_)
  · obtain ⟨a, ns, rfl, _⟩ := h
    rfl
  · obtain ⟨a, ns, rfl, hO, hq, hn, hQ⟩ := h
    obtain ⟨gs, cs, s1, s2, e1', e2'⟩ := hm ns hn
    obtain ⟨t1, a1, a2⟩ := (hb1 cdv A outer s H E hr hgd).ex
    have hN : N.length ≥ 1 := by
      have := congrArg List.length sc.pre
      rw [List.length_take] at this
      simp at this
      omega
    refine ⟨_, pss_cons (ps_set (i := i) sc.nd hi hx a1 (hsw cdv A outer s H E) (.inl rfl)) (pss_can (κ := κ) (κ' := κ') fun da => hb2 cdv A outer s H E da hr hgd), ?_⟩
    have ss0 : Stt (L.fam none) H H ⟨[], 0, [], 0⟩ := ⟨hle.refl _, fun p hp => by rw [hda] at hp; cases hp⟩
    have r0 : ∀ (S : Sig) (G : Hp), S.K = L.K → SqE L.K G a (ns.map V.int) → Rp S G (.ref a) (.list (ns.map PyData.int)) := fun S G hS q => .lst (by rw [hS]; exact q) (RpAll.ints ns)
    have en0 := env_start (S := L.fam none) (H := H) (F := H) (κ := κ) (N := N) (vs := [.ref a]) (ds := [.list (ns.map PyData.int)]) (n := 1) rfl hN hκ (.cons (r0 _ H (L.hK none) hq) .nil)
    refine a2 H H H _ _ ⟨[], 0, [], 0⟩ _ ss0 en0 ?_
    rw [e1']
    intro v F1 H1 st1 ss1 ⟨gs', cs', dd, gg, c, eq, D⟩
    have eg : gs' = gs ∧ cs' = cs := by
      unfold encDr at eq
      injection eq with eq
      injection eq with q1 eq
      injection eq with q2 _
      injection q1 with q1
      injection q2 with q2
      have inj : ∀ {x y : List Int}, x.map PyData.int = y.map PyData.int → x = y := fun h => by
        have := congrArg intsOf h
        rw [intsOf_ints, intsOf_ints] at this
        exact Option.some.inj this
      exact ⟨(inj q1).symm, (inj q2).symm⟩
    obtain ⟨rfl, rfl⟩ := eg
    obtain rfl := D.ev
    -- the cells frozen, the draw at dd
    have le2 : hle F1 (upd F1 c (.lst (cs'.map V.int))) := fun b o hb => by rw [upd_ne (ne_of_none hb D.fc)]; exact hb
    have ss2 : Stt (L.fam (some (dd, gg, c))) (upd F1 c (.lst (cs'.map V.int))) H1 ⟨gs', 0, cs', 0⟩ := ⟨fun b o hb => by
        by_cases z : b = c
        · subst z; rw [upd_same] at hb; cases hb; exact D.hc
        · rw [upd_ne z] at hb; exact ss1.le b o hb, fun q hq => by
        rw [hda] at hq
        cases hq
        exact ⟨D.hd, D.hg, upd_same, D.n1, by rw [upd_ne D.n2]; exact D.fd, by rw [upd_ne D.n3]; exact D.fg⟩⟩
    show gName i (.ref dd) (start N [.ref a]) H1 _
    refine ⟨some (dd, gg, c), _, H1, _, (slots N.length [.list (ns.map PyData.int)]).set i (some drwD), ⟨gs', 0, cs', 0⟩, ss2, .refl, ⟨?_, fun j d hj h => ?_, fun j d hj h => ?_, fun j l b d e hj hl h => ?_⟩, ?_⟩
    · rw [List.length_set, List.length_set]; exact en0.len
    · by_cases z : i = j
      · subst z
        by_cases hl : i < (slots N.length [PyData.list (ns.map PyData.int)]).length
        · rw [List.getElem?_set_self hl] at h
          cases h
          exact ⟨.ref dd, List.getElem?_set_self (by rw [← en0.len]; exact hl), .spc (hdr _ _)⟩
        · rw [List.getElem?_eq_none (by simpa using hl)] at h; cases h
      · rw [List.getElem?_set_ne z] at h ⊢
        obtain ⟨hj1, hd⟩ := slots_get h
        obtain rfl : j = 0 := by simp at hj1; omega
        simp at hd
        subst hd
        refine ⟨.ref a, rfl, r0 _ _ (L.hK _) ?_⟩
        have q1 : SqE L.K F1 a (ns.map V.int) := sqE_mono st1.le.rle hq
        exact sqE_mono le2.rle q1
    · by_cases z : i = j
      · subst z; exact absurd hj hκi
      · rw [List.getElem?_set_ne z] at h
        obtain ⟨hj1, hd⟩ := slots_get h
        exact absurd hj (hκ j (by simpa using hj1))
    · by_cases z : i = j
      · subst z; exact absurd hj hκi
      · rw [List.getElem?_set_ne z] at h
        obtain ⟨hj1, hd⟩ := slots_get h
        exact absurd hj (hκ j (by simpa using hj1))
    · rw [e2']
      refine ⟨(fun _ _ z => nomatch z), fun d s' h v F' H' _ _ r => ?_, (fun _ _ z => nomatch z), (fun _ _ z => nomatch z), (fun _ _ z => nomatch z), (fun z => nomatch z)⟩
      cases h
      cases r
      exact hQ _
end
end DL

set_option Elab.async false
set_option autoImplicit false
set_option linter.all false
set_option maxRecDepth 100000
set_option maxHeartbeats 4000000
/-! what the draw's defs reckon -/
namespace DL
open PySem PySem.Spec PyProof.Rows L2
@[simp] theorem bA {α β : Type} (x : DM α) (f : α → DM β) (s : Drw) : (x >>= f) s = (match x s with
  | .ok a s' => f a s'
  | .exc e s' => .exc e s'
  | .bad => .bad) := rfl
@[simp] theorem pA {α : Type} (a : α) (s : Drw) : (pure a : DM α) s = .ok a s := rfl
@[simp] theorem fA {α : Type} (s : Drw) : (DM.fail : DM α) s = .bad := rfl
@[simp] theorem oS {α : Type} (a : α) (s : Drw) : (DM.opt (some a) : DM α) s = .ok a s := rfl
@[simp] theorem oN {α : Type} (s : Drw) : (DM.opt (none : Option α)) s = .bad := rfl
@[simp] theorem gA (i : Nat) (ρ : Sl) (s : Drw) : sGet i ρ s = (match ρ[i]? with
  | some (some d) => .ok d s
  | _ => .bad) := by unfold sGet; split <;> simp_all
@[simp] theorem isDrA (s : Drw) : isDr drwD s = .ok () s := rfl
@[simp] theorem eqII (i j : Int) (s : Drw) : eqD (.int i) (.int j) s = .ok (.bool (decide (i = j))) s := by
  unfold eqD
  rw [if_pos ⟨rfl, rfl, by show min 0 0 ≤ 64; decide⟩]
  show Out.ok (PyData.bool (PyData.eqv (.int i) (.int j))) s = _
  congr 2
@[simp] theorem addII (i j : Int) : addD (.int i) (.int j) = pure (.int (i + j)) := rfl
@[simp] theorem subII (i j : Int) : subD (.int i) (.int j) = pure (.int (i - j)) := rfl
theorem mulII {i j : Int} (h : i.natAbs < 18446744073709551616 ∨ j.natAbs < 18446744073709551616) : mulD (.int i) (.int j) = pure (.int (i * j)) := if_pos h
theorem modII {i j : Int} (h : j ≠ 0) : modD (.int i) (.int j) = pure (.int (i.fmod j)) := if_pos h
theorem fdivII {i j : Int} (h : 0 < j ∧ j < 1073741824) : fdivD (.int i) (.int j) = pure (.int (i / j)) := if_pos h
theorem powII {i j : Int} (h : 0 ≤ j ∧ j ≤ 1000000 ∧ i.natAbs < 2 ^ 64) : powD (.int i) (.int j) = pure (.int (i ^ j.toNat)) := if_pos h
@[simp] theorem geII (i j : Int) : geD (.int i) (.int j) = pure (.bool (decide (j ≤ i))) := rfl
@[simp] theorem intI (i : Int) : intD [.int i] = pure (.int i) := rfl
@[simp] theorem absI (i : Int) : absD [.int i] = pure (.int (if i < 0 then -i else i)) := rfl
@[simp] theorem bolB (b : Bool) : boolOf (.bool b) = pure b := rfl
@[simp] theorem seqA (g h : Sl → DM Fl) (ρ : Sl) (s : Drw) : seqF g h ρ s = (match g ρ s with
  | .ok (.nx ρ') s' => h ρ' s'
  | .ok r s' => .ok r s'
  | .exc e s' => .exc e s'
  | .bad => .bad) := by
  unfold seqF
  rw [bA]
  cases hq : g ρ s with
  | ok r s' => cases r <;> rfl
  | exc e s' => rfl
  | bad => rfl
theorem bok {α β : Type} {x : DM α} {f : α → DM β} {s s' : Drw} {a : α} (e : x s = .ok a s') : (x >>= f) s = f a s' := by rw [bA, e]
theorem asgF_ok {f : Sl → DM PyData} {h : PyData → Sl → Option Sl} {ρ ρ' : Sl} {s s' : Drw} {d : PyData} (e : f ρ s = .ok d s') (e2 : h d ρ = some ρ') : asgF f h ρ s = .ok (.nx ρ') s' := by
  unfold asgF
  rw [bok e, e2]
  rfl
theorem rng1_ok {f : Sl → DM PyData} {ρ : Sl} {s s' : Drw} {n : Int} (e : f ρ s = .ok (.int n) s') (h : n ≤ 16777216 ∧ -16777216 ≤ n) : rng1 f ρ s = .ok (rangeL 0 n.toNat) s' := by
  unfold rng1
  rw [bok e]
  show DM.opt (if n ≤ 16777216 ∧ -16777216 ≤ n then some (rangeL 0 n.toNat) else none) s' = _
  rw [if_pos h]
  rfl
theorem seq_nx {g h : Sl → DM Fl} {ρ ρ' : Sl} {s s' : Drw} (e : g ρ s = .ok (.nx ρ') s') : seqF g h ρ s = h ρ' s' := by rw [seqA, e]
theorem seq_ret {g h : Sl → DM Fl} {ρ : Sl} {d : PyData} {s s' : Drw} (e : g ρ s = .ok (.ret d) s') : seqF g h ρ s = .ok (.ret d) s' := by rw [seqA, e]
theorem runB_ret {N : Nat} {g : Sl → DM Fl} {ds : List PyData} {d : PyData} {s s' : Drw} (e : g (slots N ds) s = .ok (.ret d) s') : runB N g ds s = .ok d s' := by
  unfold runB
  rw [bA, e]
  rfl
theorem runO_ret {N : Nat} {g : Sl → DM Fl} {ds : List PyData} {d : PyData} {s s' : Drw} (e : g (slots N ds) s = .ok (.ret d) s') : runO N g ds s = .ok d s' := by
  unfold runO
  rw [bA, e]
  rfl
theorem loop_inv {asg : PyData → Sl → Option Sl} {body : Sl → DM Fl} (I : Sl → Drw → Prop) : ∀ (ds : List PyData), (∀ d, d ∈ ds → ∀ ρ s, I ρ s → ∃ ρ1 ρ2 s2, asg d ρ = some ρ1 ∧ body ρ1 s = .ok (.nx ρ2) s2 ∧ I ρ2 s2) →
    ∀ ρ s, I ρ s → ∃ ρ' s', loopF asg body ds ρ s = .ok (.nx ρ') s' ∧ I ρ' s'
  | [], _, ρ, s, h => ⟨ρ, s, rfl, h⟩
  | d :: ds, hb, ρ, s, h => by
    obtain ⟨ρ1, ρ2, s2, e1, e2, h2⟩ := hb d List.mem_cons_self ρ s h
    obtain ⟨ρ', s', e3, h3⟩ := loop_inv I ds (fun d hd => hb d (List.mem_cons_of_mem _ hd)) ρ2 s2 h2
    refine ⟨ρ', s', ?_, h3⟩
    unfold loopF
    simp [e1, e2, e3]
theorem lcL_pure {asg : PyData → Sl → Option Sl} {p : Sl → DM Bool} {el : Sl → DM PyData} {ρ : Sl} {s : Drw} (P : PyData → Bool) (Fn : PyData → PyData) : ∀ (ds : List PyData), (∀ d, d ∈ ds → ∃ ρ1, asg d ρ = some ρ1 ∧ p ρ1 s = .ok (P d) s ∧ (P d = true → el ρ1 s = .ok (Fn d) s)) →
    lcL asg p el ρ ds s = .ok ((ds.filter P).map Fn) s
  | [], _ => rfl
  | d :: ds, h => by
    obtain ⟨ρ1, e1, e2, e3⟩ := h d List.mem_cons_self
    have ih := lcL_pure (asg := asg) (p := p) (el := el) (ρ := ρ) (s := s) P Fn ds (fun d hd => h d (List.mem_cons_of_mem _ hd))
    unfold lcL
    by_cases q : P d = true
    · simp [e1, e2, e3 q, q, ih]
    · have q' : P d = false := by simpa using q
      simp [e1, e2, q', ih]
@[simp] theorem drIA {get : Drw → Int} {i : Nat} {ρ : Sl} {s : Drw} (h : ρ[i]? = some (some drwD)) : drI get (sGet i) ρ s = .ok (.int (get s)) s := by
  show DM.bnd (sGet i ρ) (fun d => DM.bnd (isDr d) (fun _ => fun s => Out.ok (PyData.int (get s)) s)) s = _
  unfold DM.bnd
  rw [sGet_some h]
  rfl
@[simp] theorem drCA {i : Nat} {ρ : Sl} {s : Drw} (h : ρ[i]? = some (some drwD)) : drC (sGet i) ρ s = .ok (.list (s.cells.map PyData.int)) s := by
  show DM.bnd (sGet i ρ) (fun d => DM.bnd (isDr d) (fun _ => fun s => Out.ok (PyData.list (s.cells.map PyData.int)) s)) s = _
  unfold DM.bnd
  rw [sGet_some h]
  rfl
@[simp] theorem drNeA {i : Nat} {ρ : Sl} {s : Drw} (h : ρ[i]? = some (some drwD)) : drNe (sGet i) ρ s = .ok (!s.great.isEmpty) s := by
  show DM.bnd (sGet i ρ) (fun d => DM.bnd (isDr d) (fun _ => fun s => .ok (!s.great.isEmpty) s)) s = _
  unfold DM.bnd
  rw [sGet_some h]
  rfl
theorem drPutA {put : Drw → Int → Drw} {f : Sl → DM PyData} {i : Nat} {ρ : Sl} {s s' : Drw} {n : Int} (hf : f ρ s = .ok (.int n) s') (h : ρ[i]? = some (some drwD)) : drPut put f (sGet i) ρ s = .ok (.nx ρ) (put s' n) := by
  unfold drPut
  show DM.bnd (f ρ) _ s = _
  unfold DM.bnd
  rw [hf]
  show DM.bnd (sGet i ρ) _ s' = _
  unfold DM.bnd
  rw [sGet_some h]
  rfl
theorem drPopA {i : Nat} {ρ : Sl} {s : Drw} {n : Int} {ns : List Int} (h : ρ[i]? = some (some drwD)) (hg : s.great = n :: ns) : drPop i ρ s = .ok (.nx ρ) { s with great := ns, rest := n } := by
  unfold drPop
  show DM.bnd (sGet i ρ) _ s = _
  unfold DM.bnd
  rw [sGet_some h]
  show (match s.great with | [] => _ | n :: ns => _) = _
  rw [hg]
/-! begin -/
def gBegin : Sl → DM Fl := seqF (asgO 1 (lcF (itF (sGet 0)) (gSetD 2) (fun ρ => f2 geD (fCall (aCons (sGet 2) (fun _ => pure [])) absD) (f2 powD (fun _ => pure (.int 10)) (fun _ => pure (.int 18))) ρ >>= boolOf) (f2 subD (fCall (aCons (sGet 2) (fun _ => pure [])) absD) (f2 powD (fun _ => pure (.int 10)) (fun _ => pure (.int 18)))) [2])) (retDr 1 (lcF (itF (sGet 0)) (gSetD 2) (fun _ => pure true) (fCall (aCons (sGet 2) (fun _ => pure [])) absD) [2]))
def iabs (i : Int) : Int := if i < 0 then -i else i
theorem iabs_nn (i : Int) : 0 ≤ iabs i := by unfold iabs; split <;> omega
def greats (ns : List Int) : List Int := (ns.filter fun i => decide (10 ^ 18 ≤ iabs i)).map fun i => iabs i - 10 ^ 18
theorem pow18 : powD (.int 10) (.int 18) = pure (.int (10 ^ 18)) := powII (by decide)
theorem begin_eq (ns : List Int) (h : ns.length ≤ sizeLine) (s : Drw) : runO 3 gBegin [.list (ns.map PyData.int)] s = .ok (encDr (greats ns) (ns.map iabs)) s := by
  have l1 : ∀ s : Drw, lcL (gSetD 2) (fun ρ => f2 geD (fCall (aCons (sGet 2) (fun _ => pure [])) absD) (f2 powD (fun _ => pure (.int 10)) (fun _ => pure (.int 18))) ρ >>= boolOf) (f2 subD (fCall (aCons (sGet 2) (fun _ => pure [])) absD) (f2 powD (fun _ => pure (.int 10)) (fun _ => pure (.int 18)))) [some (.list (ns.map PyData.int)), none, none] (ns.map PyData.int) s = .ok ((greats ns).map PyData.int) s := fun s => by
    rw [lcL_pure (fun d => match d with | .int i => decide (10 ^ 18 ≤ iabs i) | _ => false) (fun d => match d with | .int i => .int (iabs i - 10 ^ 18) | d => d)]
    · congr 1
      rw [greats, List.filter_map, List.map_map, List.map_map]
      rfl
    · intro d hd
      obtain ⟨i, _, rfl⟩ := List.mem_map.mp hd
      refine ⟨_, rfl, ?_, fun _ => ?_⟩
      · simp [f2, fCall, aCons, pow18, iabs]
        congr
      · simp [f2, fCall, aCons, pow18, iabs]
  have l2 : ∀ (o : Option PyData) (s : Drw), lcL (gSetD 2) (fun _ => pure true) (fCall (aCons (sGet 2) (fun _ => pure [])) absD) [some (.list (ns.map PyData.int)), o, none] (ns.map PyData.int) s = .ok ((ns.map iabs).map PyData.int) s := fun o s => by
    rw [lcL_pure (fun _ => true) (fun d => match d with | .int i => .int (iabs i) | d => d)]
    · congr 1
      rw [List.filter_eq_self.mpr (fun _ _ => rfl), List.map_map, List.map_map]
      rfl
    · intro d hd
      obtain ⟨i, _, rfl⟩ := List.mem_map.mp hd
      exact ⟨_, rfl, rfl, fun _ => by simp [fCall, aCons, iabs]⟩
  have it : itemsOf (.list (ns.map PyData.int)) = some (ns.map PyData.int) := by
    unfold itemsOf
    first
      | rfl
      | (rw [if_pos (by simpa using h)])
  simp [runO, gBegin, slots, asgO, lcF, itF, it, wipeD, mute, l1, l2, retDr, listAt, intsOf_ints, listInts, encDr, -List.map_map]
/-! blend -/
def gBlend : Sl → DM Fl := seqF (asgF (f2 addD (drI (·.turn) (sGet 0)) (fun _ => pure (.int 1))) (gSetD 1)) (seqF (drPut (fun s i => { s with turn := i }) (sGet 1) (sGet 0)) (seqF (asgF (fun _ => pure (.int 0)) (gSetD 2)) (seqF (forF (itF (mLst (aCons (fun _ => pure (.int 2147483629)) (aCons (fun _ => pure (.int 2147483587)) (aCons (fun _ => pure (.int 2147483579)) (aCons (fun _ => pure (.int 2147483563)) (fun _ => pure []))))))) (gSetD 3) (seqF (asgF (f2 modD (fCall (aCons (f2 addD (f2 mulD (sGet 1) (fun _ => pure (.int 69621))) (f2 fdivD (sGet 3) (fun _ => pure (.int 7)))) (fun _ => pure [])) intD) (sGet 3)) (gSetD 4)) (seqF (forF (itF (drC (sGet 0))) (gSetD 5) (asgF (f2 modD (fCall (aCons (f2 addD (f2 mulD (sGet 4) (fun _ => pure (.int 48271))) (sGet 5)) (fun _ => pure [])) intD) (sGet 3)) (gSetD 4))) (asgF (f2 addD (f2 mulD (sGet 2) (fun _ => pure (.int 2147483647))) (f2 modD (fCall (aCons (f2 powD (sGet 4) (fun _ => pure (.int 5))) (fun _ => pure [])) intD) (sGet 3))) (gSetD 2))))) (retF (sGet 2)))))
/-- what stays true of a draw -/
structure DrI (s : Drw) : Prop where
  great : ∀ g, g ∈ s.great → 0 ≤ g
  cells : ∀ c, c ∈ s.cells → 0 ≤ c
  len : s.cells.length ≤ 63
  rest : 0 ≤ s.rest
theorem fmod_in {a p : Int} (h : 0 < p) : 0 ≤ a.fmod p ∧ a.fmod p < p := ⟨Int.fmod_nonneg_of_pos a h, Int.fmod_lt_of_pos a h⟩
theorem inner_eq {p : Int} (hp : 0 < p ∧ p < 2147483648) (ρ0 : PyData) (t f0 : PyData) (cs : List Int) (b : Int) (hb : 0 ≤ b ∧ b < p) (o5 : Option PyData) (s : Drw) :
    ∃ b' o5', 0 ≤ b' ∧ b' < p ∧ loopF (gSetD 5) (asgF (f2 modD (fCall (aCons (f2 addD (f2 mulD (sGet 4) (fun _ => pure (.int 48271))) (sGet 5)) (fun _ => pure [])) intD) (sGet 3)) (gSetD 4)) (cs.map PyData.int) [some ρ0, some t, some f0, some (.int p), some (.int b), o5] s = .ok (.nx [some ρ0, some t, some f0, some (.int p), some (.int b'), o5']) s := by
  induction cs generalizing b o5 with
  | nil => exact ⟨b, o5, hb.1, hb.2, rfl⟩
  | cons c cs ih =>
    obtain ⟨q1, q2⟩ := fmod_in (a := b * 48271 + c) hp.1
    obtain ⟨b', o5', r1, r2, r3⟩ := ih ((b * 48271 + c).fmod p) ⟨q1, q2⟩ (some (.int c))
    refine ⟨b', o5', r1, r2, ?_⟩
    have hm : p ≠ 0 := by omega
    rw [List.map_cons]
    unfold loopF
    simp [gSetD, asgF, f2, fCall, aCons, mulII (i := b) (j := 48271) (.inr (by decide)), modII hm]
    exact r3
def gBody : Sl → DM Fl := seqF (asgF (f2 modD (fCall (aCons (f2 addD (f2 mulD (sGet 1) (fun _ => pure (.int 69621))) (f2 fdivD (sGet 3) (fun _ => pure (.int 7)))) (fun _ => pure [])) intD) (sGet 3)) (gSetD 4)) (seqF (forF (itF (drC (sGet 0))) (gSetD 5) (asgF (f2 modD (fCall (aCons (f2 addD (f2 mulD (sGet 4) (fun _ => pure (.int 48271))) (sGet 5)) (fun _ => pure [])) intD) (sGet 3)) (gSetD 4))) (asgF (f2 addD (f2 mulD (sGet 2) (fun _ => pure (.int 2147483647))) (f2 modD (fCall (aCons (f2 powD (sGet 4) (fun _ => pure (.int 5))) (fun _ => pure [])) intD) (sGet 3))) (gSetD 2)))
theorem body_eq {p : Int} (hp : 0 < p ∧ p < 2147483648) (t f : Int) (hf : 0 ≤ f) (o4 o5 : Option PyData) (s : Drw) (hl : s.cells.length ≤ sizeLine) :
    ∃ f' o4' o5', 0 ≤ f' ∧ gBody [some drwD, some (.int t), some (.int f), some (.int p), o4, o5] s = .ok (.nx [some drwD, some (.int t), some (.int f'), some (.int p), o4', o5']) s := by
  have hm : p ≠ 0 := by omega
  obtain ⟨q1, q2⟩ := fmod_in (a := t * 69621 + p / 7) hp.1
  obtain ⟨b, o5', r1, r2, r3⟩ := inner_eq hp drwD (.int t) (.int f) s.cells ((t * 69621 + p / 7).fmod p) ⟨q1, q2⟩ o5 s
  obtain ⟨w1, w2⟩ := fmod_in (a := b ^ 5) hp.1
  refine ⟨f * 2147483647 + (b ^ 5).fmod p, some (.int b), o5', by omega, ?_⟩
  have it : itemsOf (.list (s.cells.map PyData.int)) = some (s.cells.map PyData.int) := rfl
  unfold gBody
  rw [seqA]
  have e1 : asgF (f2 modD (fCall (aCons (f2 addD (f2 mulD (sGet 1) (fun _ => pure (.int 69621))) (f2 fdivD (sGet 3) (fun _ => pure (.int 7)))) (fun _ => pure [])) intD) (sGet 3)) (gSetD 4) [some drwD, some (.int t), some (.int f), some (.int p), o4, o5] s = .ok (.nx [some drwD, some (.int t), some (.int f), some (.int p), some (.int ((t * 69621 + p / 7).fmod p)), o5]) s := by
    simp [gSetD, asgF, f2, fCall, aCons, mulII (i := t) (j := 69621) (.inr (by decide)), modII hm, fdivII (i := p) (j := 7) (by decide)]
  rw [e1]
  show (seqF _ _) _ _ = _
  rw [seqA]
  have e2 : forF (itF (drC (sGet 0))) (gSetD 5) (asgF (f2 modD (fCall (aCons (f2 addD (f2 mulD (sGet 4) (fun _ => pure (.int 48271))) (sGet 5)) (fun _ => pure [])) intD) (sGet 3)) (gSetD 4)) [some drwD, some (.int t), some (.int f), some (.int p), some (.int ((t * 69621 + p / 7).fmod p)), o5] s = .ok (.nx [some drwD, some (.int t), some (.int f), some (.int p), some (.int b), o5']) s := by
    unfold forF
    simp [itF, it]
    exact r3
  rw [e2]
  have hb : b.natAbs < 2 ^ 64 := by omega
  show asgF _ _ _ _ = _
  simp [gSetD, asgF, f2, fCall, aCons, mulII (i := f) (j := 2147483647) (.inr (by decide)), modII hm, powII (i := b) (j := 5) ⟨by decide, by decide, hb⟩]
theorem blend_eq (s : Drw) (hi : DrI s) : ∃ r, 0 ≤ r ∧ runB 6 gBlend [drwD] s = .ok (.int r) { s with turn := s.turn + 1 } := by
  have hl : s.cells.length ≤ sizeLine := Nat.le_trans hi.len (by rw [sizeLine_eq]; decide)
  have lp := loop_inv (asg := gSetD 3) (body := gBody) (fun ρ s' => s' = { s with turn := s.turn + 1 } ∧ ∃ f o3 o4 o5, 0 ≤ f ∧ ρ = [some drwD, some (.int (s.turn + 1)), some (.int f), o3, o4, o5]) [.int 2147483629, .int 2147483587, .int 2147483579, .int 2147483563]
    (fun d hd ρ s' ⟨e, f, o3, o4, o5, hf, eρ⟩ => by
      subst e eρ
      have key : ∃ p : Int, d = .int p ∧ 0 < p ∧ p < 2147483648 := by
        simp at hd
        rcases hd with rfl | rfl | rfl | rfl <;> exact ⟨_, rfl, by decide, by decide⟩
      obtain ⟨p, rfl, hp⟩ := key
      obtain ⟨f', o4', o5', h1, h2⟩ := body_eq hp (s.turn + 1) f hf o4 o5 { s with turn := s.turn + 1 } hl
      exact ⟨_, _, _, rfl, h2, rfl, f', _, o4', o5', h1, rfl⟩) [some drwD, some (.int (s.turn + 1)), some (.int 0), none, none, none] { s with turn := s.turn + 1 } ⟨rfl, 0, none, none, none, by decide, rfl⟩
  obtain ⟨ρ', s', e, es, f, o3, o4, o5, hf, eρ⟩ := lp
  subst es eρ
  refine ⟨f, hf, ?_⟩
  have e0 : ∀ s : Drw, itF (mLst (aCons (fun _ => pure (.int 2147483629)) (aCons (fun _ => pure (.int 2147483587)) (aCons (fun _ => pure (.int 2147483579)) (aCons (fun _ => pure (.int 2147483563)) (fun _ => pure [])))))) [some drwD, some (.int (s.turn)), some (.int 0), none, none, none] s = .ok [.int 2147483629, .int 2147483587, .int 2147483579, .int 2147483563] s := fun s => by
    have : (4 : Nat) ≤ sizeLine := by rw [sizeLine_eq]; decide
    simp [itF, mLst, aCons, itemsOf, this]
  have e1 : forF (itF (mLst (aCons (fun _ => pure (.int 2147483629)) (aCons (fun _ => pure (.int 2147483587)) (aCons (fun _ => pure (.int 2147483579)) (aCons (fun _ => pure (.int 2147483563)) (fun _ => pure []))))))) (gSetD 3) gBody [some drwD, some (.int (s.turn + 1)), some (.int 0), none, none, none] { s with turn := s.turn + 1 } = .ok (.nx [some drwD, some (.int (s.turn + 1)), some (.int f), o3, o4, o5]) { s with turn := s.turn + 1 } := by
    unfold forF
    rw [bA, e0 { s with turn := s.turn + 1 }]
    exact e
  have e2 : asgF (f2 addD (drI (·.turn) (sGet 0)) (fun _ => pure (.int 1))) (gSetD 1) [some drwD, none, none, none, none, none] s = .ok (.nx [some drwD, some (.int (s.turn + 1)), none, none, none, none]) s := by
    simp [asgF, f2, gSetD]
  have e3 : drPut (fun s i => { s with turn := i }) (sGet 1) (sGet 0) [some drwD, some (.int (s.turn + 1)), none, none, none, none] s = .ok (.nx [some drwD, some (.int (s.turn + 1)), none, none, none, none]) { s with turn := s.turn + 1 } := by
    exact drPutA rfl rfl
  have e4 : asgF (fun _ => pure (.int 0)) (gSetD 2) [some drwD, some (.int (s.turn + 1)), none, none, none, none] { s with turn := s.turn + 1 } = .ok (.nx [some drwD, some (.int (s.turn + 1)), some (.int 0), none, none, none]) { s with turn := s.turn + 1 } := by
    simp [asgF, gSetD]
  refine runB_ret ?_
  show gBlend [some drwD, none, none, none, none, none] s = _
  unfold gBlend
  rw [seq_nx e2, seq_nx e3, seq_nx e4]
  refine (seq_nx (g := forF _ _ gBody) e1).trans ?_
  simp [retF]
/-! take -/
def mBlend : List PyData → DM PyData := runB 6 gBlend
def gTake : Sl → DM Fl := seqF (ifF (bAnd (fun ρ => f2 eqD (drI (·.rest) (sGet 0)) (fun _ => pure (.int 0)) ρ >>= boolOf) (drNe (sGet 0))) (drPop 0) (fun ρ => pure (.nx ρ))) (seqF (ifF (fun ρ => f2 eqD (drI (·.rest) (sGet 0)) (fun _ => pure (.int 0)) ρ >>= boolOf) (drPut (fun s i => { s with rest := i }) (fun ρ => (aCons (sGet 0) (fun _ => pure [])) ρ >>= mBlend) (sGet 0)) (fun ρ => pure (.nx ρ))) (seqF (asgF (f2 modD (fCall (aCons (drI (·.rest) (sGet 0)) (fun _ => pure [])) intD) (sGet 1)) (gSetD 2)) (seqF (drPut (fun s i => { s with rest := i }) (f2 fdivD (drI (·.rest) (sGet 0)) (sGet 1)) (sGet 0)) (retF (sGet 2)))))
def mTake : List PyData → DM PyData := runB 3 gTake
theorem if_t {p : Sl → DM Bool} {g h : Sl → DM Fl} {ρ : Sl} {s s' : Drw} (e : p ρ s = .ok true s') : ifF p g h ρ s = g ρ s' := by
  unfold ifF
  rw [bA, e]
  rfl
theorem if_f {p : Sl → DM Bool} {g h : Sl → DM Fl} {ρ : Sl} {s s' : Drw} (e : p ρ s = .ok false s') : ifF p g h ρ s = h ρ s' := by
  unfold ifF
  rw [bA, e]
  rfl
theorem take_eq (s : Drw) (hi : DrI s) (n : Int) (hn : 0 < n ∧ n < 1073741824) : ∃ r s', 0 ≤ r ∧ r < n ∧ DrI s' ∧ mTake [drwD, .int n] s = .ok (.int r) s' := by
  have t0 : ∀ s : Drw, (fun ρ => f2 eqD (drI (·.rest) (sGet 0)) (fun _ => pure (.int 0)) ρ >>= boolOf) [some drwD, some (.int n), none] s = .ok (decide (s.rest = 0)) s := fun s => by simp [f2]
  have t1 : ∀ s : Drw, bAnd (fun ρ => f2 eqD (drI (·.rest) (sGet 0)) (fun _ => pure (.int 0)) ρ >>= boolOf) (drNe (sGet 0)) [some drwD, some (.int n), none] s = .ok (decide (s.rest = 0) && !s.great.isEmpty) s := fun s => by
    unfold bAnd
    rw [bA, t0 s]
    by_cases q : s.rest = 0 <;> simp [q]
  -- the first if
  have a1 : ∃ s1, DrI s1 ∧ ifF (bAnd (fun ρ => f2 eqD (drI (·.rest) (sGet 0)) (fun _ => pure (.int 0)) ρ >>= boolOf) (drNe (sGet 0))) (drPop 0) (fun ρ => pure (.nx ρ)) [some drwD, some (.int n), none] s = .ok (.nx [some drwD, some (.int n), none]) s1 := by
    by_cases q : (decide (s.rest = 0) && !s.great.isEmpty) = true
    · cases hg : s.great with
      | nil => rw [hg] at q; simp at q
      | cons g gs =>
        refine ⟨{ s with great := gs, rest := g }, ⟨fun x hx => hi.great x (by rw [hg]; exact List.mem_cons_of_mem _ hx), hi.cells, hi.len, hi.great g (by rw [hg]; exact List.mem_cons_self)⟩, ?_⟩
        rw [if_t (by rw [t1 s, q])]
        exact drPopA rfl hg
    · have q' : (decide (s.rest = 0) && !s.great.isEmpty) = false := by simpa using q
      exact ⟨s, hi, by rw [if_f (by rw [t1 s, q'])]; rfl⟩
  obtain ⟨s1, h1, e1⟩ := a1
  have a2 : ∃ s2, DrI s2 ∧ ifF (fun ρ => f2 eqD (drI (·.rest) (sGet 0)) (fun _ => pure (.int 0)) ρ >>= boolOf) (drPut (fun s i => { s with rest := i }) (fun ρ => (aCons (sGet 0) (fun _ => pure [])) ρ >>= mBlend) (sGet 0)) (fun ρ => pure (.nx ρ)) [some drwD, some (.int n), none] s1 = .ok (.nx [some drwD, some (.int n), none]) s2 := by
    by_cases q : s1.rest = 0
    · obtain ⟨r, hr, eb⟩ := blend_eq s1 h1
      refine ⟨{ s1 with turn := s1.turn + 1, rest := r }, ⟨h1.great, h1.cells, h1.len, hr⟩, ?_⟩
      rw [if_t ((t0 s1).trans (by rw [decide_eq_true q]))]
      refine drPutA (s' := { s1 with turn := s1.turn + 1 }) ?_ rfl
      have : mBlend [drwD] s1 = .ok (.int r) { s1 with turn := s1.turn + 1 } := eb
      simp [aCons, this]
    · exact ⟨s1, h1, by rw [if_f ((t0 s1).trans (by rw [decide_eq_false q]))]; rfl⟩
  obtain ⟨s2, h2, e2⟩ := a2
  have hm : n ≠ 0 := by omega
  obtain ⟨q1, q2⟩ := fmod_in (a := s2.rest) hn.1
  have hd : 0 ≤ s2.rest / n := Int.ediv_nonneg h2.rest (by omega)
  refine ⟨s2.rest.fmod n, { s2 with rest := s2.rest / n }, q1, q2, ⟨h2.great, h2.cells, h2.len, hd⟩, ?_⟩
  have e3 : asgF (f2 modD (fCall (aCons (drI (·.rest) (sGet 0)) (fun _ => pure [])) intD) (sGet 1)) (gSetD 2) [some drwD, some (.int n), none] s2 = .ok (.nx [some drwD, some (.int n), some (.int (s2.rest.fmod n))]) s2 := by
    simp [asgF, f2, fCall, aCons, gSetD, modII hm]
  have e4 : drPut (fun s i => { s with rest := i }) (f2 fdivD (drI (·.rest) (sGet 0)) (sGet 1)) (sGet 0) [some drwD, some (.int n), some (.int (s2.rest.fmod n))] s2 = .ok (.nx [some drwD, some (.int n), some (.int (s2.rest.fmod n))]) { s2 with rest := s2.rest / n } := by
    refine drPutA (s' := s2) (n := s2.rest / n) ?_ rfl
    simp [f2, fdivII hn]
  refine runB_ret ?_
  show gTake [some drwD, some (.int n), none] s = _
  unfold gTake
  rw [seq_nx e1, seq_nx e2, seq_nx e3, seq_nx e4]
  simp [retF]
/-! pick -/
def gPick : Sl → DM Fl := retF (f2 ixD (sGet 1) (fun ρ => (aCons (sGet 0) (aCons (fCall (aCons (sGet 1) (fun _ => pure [])) lenD) (fun _ => pure []))) ρ >>= mTake))
def mPick : List PyData → DM PyData := runB 2 gPick
theorem pick_eq (s : Drw) (hi : DrI s) (ds : List PyData) (h0 : ds ≠ []) (hl : ds.length < 1073741824) : ∃ d s', d ∈ ds ∧ DrI s' ∧ mPick [drwD, .list ds] s = .ok d s' := by
  have hp : 0 < ds.length := by cases ds with
    | nil => exact absurd rfl h0
    | cons a b => simp
  obtain ⟨r, s', r1, r2, hi', e⟩ := take_eq s hi ds.length ⟨by omega, by omega⟩
  have hr : r.toNat < ds.length := by omega
  refine ⟨ds[r.toNat], s', List.getElem_mem hr, hi', ?_⟩
  have ea : L2.atI ds r = some ds[r.toNat] := by
    unfold L2.atI L2.ixN
    rw [if_pos r1, if_pos (by omega)]
    simp [hr]
  refine runB_ret ?_
  show gPick [some drwD, some (.list ds)] s = _
  unfold gPick
  have el : lenD [.list ds] = pure (.int ds.length) := rfl
  have ei : ixD (.list ds) (.int r) s' = .ok ds[r.toNat] s' := by
    show DM.opt (L2.atI ds r) s' = _
    rw [ea]
    rfl
  simp [retF, f2, aCons, fCall, el, e, ei]
end DL

set_option Elab.async false
set_option autoImplicit false
set_option linter.all false
set_option maxRecDepth 100000
set_option maxHeartbeats 4000000
namespace K01
open PySem PySem.Spec PyProof.Rows L2 DL
def top (i : Nat) : Stmt := PySem.Challenge.pw_endcolumns_k01_errors_by_hand.main.body.getD i (.Pass ⟨0, 0, 0, 0⟩)
abbrev s_Lbegin : Stmt := top 22
abbrev s_Lblend : Stmt := top 23
abbrev s_Ltake : Stmt := top 24
abbrev s_Lpick : Stmt := top 25
abbrev s_Lmarks : Stmt := top 26
abbrev s_Lalone : Stmt := top 27
abbrev s_Lplain : Stmt := top 28
abbrev s_Lwith_fields : Stmt := top 29
abbrev s_law : Stmt := top 30
abbrev FnP (K : PySem.W.Frag) (x : Str) (st : Stmt) (f : Addr) (fd : FuncData) : Prop := FunD K x x (defArgs st) (defBody st) (defScope st) [] [] f fd
def fldT (n : Str) : Option Str := if n = "BadJournal" then some ("at" : Str) else if n = "BadLine" then some ("row" : Str) else if n = "BadMore" then some ("table" : Str) else if n = "BadName" then some ("name" : Str) else if n = "BadNode" then some ("path" : Str) else if n = "BadTables" then some ("table" : Str) else if n = "IsThere" then some ("name" : Str) else if n = "NoColumn" then some ("name" : Str) else if n = "NoTable" then some ("table" : Str) else if n = "NotPlain" then some ("where" : Str) else if n = "TooMany" then some ("most" : Str) else  none
def hit_BadAsk (n : Str) : Bool := decide (n = "BadAsk")
def hit_BadAsked (n : Str) : Bool := decide (n = "BadAsked")
def hit_BadJournal (n : Str) : Bool := decide (n = "BadJournal")
def hit_BadLine (n : Str) : Bool := decide (n = "BadLine")
def hit_BadMore (n : Str) : Bool := decide (n = "BadMore")
def hit_BadName (n : Str) : Bool := decide (n = "BadName")
def hit_BadNode (n : Str) : Bool := decide (n = "BadNode")
def hit_BadPath (n : Str) : Bool := decide (n = "BadPath")
def hit_BadProgram (n : Str) : Bool := decide (n = "BadProgram")
def hit_BadRule (n : Str) : Bool := decide (n = "BadRule")
def hit_BadTables (n : Str) : Bool := decide (n = "BadTables")
def hit_BadText (n : Str) : Bool := decide (n = "BadText")
def hit_EndError (_ : Str) : Bool := true
def hit_IsThere (n : Str) : Bool := decide (n = "IsThere")
def hit_NoColumn (n : Str) : Bool := decide (n = "NoColumn")
def hit_NoTable (n : Str) : Bool := decide (n = "NoTable")
def hit_NotPlain (n : Str) : Bool := decide (n = "NotPlain")
def hit_NothingDone (n : Str) : Bool := decide (n = "NothingDone")
def hit_OtherTables (n : Str) : Bool := decide (n = "OtherTables")
def hit_TooMany (n : Str) : Bool := decide (n = "TooMany")
def hit_ValueError (_ : Str) : Bool := true
structure Fx (P : Program) (K : PySem.W.Frag) (mg : Str → Option Value) where
  a_Lbegin : Addr
  d_Lbegin : FuncData
  F_Lbegin : FnP K "_law_begin" s_Lbegin a_Lbegin d_Lbegin
  g_Lbegin : mg "_law_begin" = some (.ref a_Lbegin)
  a_Lblend : Addr
  d_Lblend : FuncData
  F_Lblend : FnP K "_law_blend" s_Lblend a_Lblend d_Lblend
  g_Lblend : mg "_law_blend" = some (.ref a_Lblend)
  a_Ltake : Addr
  d_Ltake : FuncData
  F_Ltake : FnP K "_law_take" s_Ltake a_Ltake d_Ltake
  g_Ltake : mg "_law_take" = some (.ref a_Ltake)
  a_Lpick : Addr
  d_Lpick : FuncData
  F_Lpick : FnP K "_law_pick" s_Lpick a_Lpick d_Lpick
  g_Lpick : mg "_law_pick" = some (.ref a_Lpick)
  a_Lmarks : Addr
  d_Lmarks : FuncData
  F_Lmarks : FnP K "_law_marks" s_Lmarks a_Lmarks d_Lmarks
  g_Lmarks : mg "_law_marks" = some (.ref a_Lmarks)
  a_Lalone : Addr
  d_Lalone : FuncData
  F_Lalone : FnP K "_law_alone" s_Lalone a_Lalone d_Lalone
  g_Lalone : mg "_law_alone" = some (.ref a_Lalone)
  a_Lplain : Addr
  d_Lplain : FuncData
  F_Lplain : FnP K "_law_plain" s_Lplain a_Lplain d_Lplain
  g_Lplain : mg "_law_plain" = some (.ref a_Lplain)
  a_Lwith_fields : Addr
  d_Lwith_fields : FuncData
  F_Lwith_fields : FnP K "_law_with_fields" s_Lwith_fields a_Lwith_fields d_Lwith_fields
  g_Lwith_fields : mg "_law_with_fields" = some (.ref a_Lwith_fields)
  a_law : Addr
  d_law : FuncData
  F_law : FnP K "law" s_law a_law d_law
  g_law : mg "law" = some (.ref a_law)
  n_ValueError : mg "ValueError" = none
  n_abs : mg "abs" = none
  n_enumerate : mg "enumerate" = none
  n_int : mg "int" = none
  n_isinstance : mg "isinstance" = none
  n_len : mg "len" = none
  n_min : mg "min" = none
  n_range : mg "range" = none
  n_repr : mg "repr" = none
  n_str : mg "str" = none
  es : List ErrC
  c_BadAsk : Addr
  g_BadAsk : mg "BadAsk" = some (.ref c_BadAsk)
  e_BadAsk : ErB K mg es ⟨"BadAsk", c_BadAsk, none⟩
  c_BadAsked : Addr
  g_BadAsked : mg "BadAsked" = some (.ref c_BadAsked)
  e_BadAsked : ErB K mg es ⟨"BadAsked", c_BadAsked, none⟩
  c_BadJournal : Addr
  g_BadJournal : mg "BadJournal" = some (.ref c_BadJournal)
  e_BadJournal : ErF P K mg es ⟨"BadJournal", c_BadJournal, some ("at" : Str)⟩ "at"
  c_BadLine : Addr
  g_BadLine : mg "BadLine" = some (.ref c_BadLine)
  e_BadLine : ErF P K mg es ⟨"BadLine", c_BadLine, some ("row" : Str)⟩ "row"
  c_BadMore : Addr
  g_BadMore : mg "BadMore" = some (.ref c_BadMore)
  e_BadMore : ErF P K mg es ⟨"BadMore", c_BadMore, some ("table" : Str)⟩ "table"
  c_BadName : Addr
  g_BadName : mg "BadName" = some (.ref c_BadName)
  e_BadName : ErF P K mg es ⟨"BadName", c_BadName, some ("name" : Str)⟩ "name"
  c_BadNode : Addr
  g_BadNode : mg "BadNode" = some (.ref c_BadNode)
  e_BadNode : ErF P K mg es ⟨"BadNode", c_BadNode, some ("path" : Str)⟩ "path"
  c_BadPath : Addr
  g_BadPath : mg "BadPath" = some (.ref c_BadPath)
  e_BadPath : ErB K mg es ⟨"BadPath", c_BadPath, none⟩
  c_BadProgram : Addr
  g_BadProgram : mg "BadProgram" = some (.ref c_BadProgram)
  e_BadProgram : ErB K mg es ⟨"BadProgram", c_BadProgram, none⟩
  c_BadRule : Addr
  g_BadRule : mg "BadRule" = some (.ref c_BadRule)
  e_BadRule : ErB K mg es ⟨"BadRule", c_BadRule, none⟩
  c_BadTables : Addr
  g_BadTables : mg "BadTables" = some (.ref c_BadTables)
  e_BadTables : ErF P K mg es ⟨"BadTables", c_BadTables, some ("table" : Str)⟩ "table"
  c_BadText : Addr
  g_BadText : mg "BadText" = some (.ref c_BadText)
  e_BadText : ErB K mg es ⟨"BadText", c_BadText, none⟩
  c_EndError : Addr
  g_EndError : mg "EndError" = some (.ref c_EndError)
  e_EndError : ErB K mg es ⟨"EndError", c_EndError, none⟩
  c_IsThere : Addr
  g_IsThere : mg "IsThere" = some (.ref c_IsThere)
  e_IsThere : ErF P K mg es ⟨"IsThere", c_IsThere, some ("name" : Str)⟩ "name"
  c_NoColumn : Addr
  g_NoColumn : mg "NoColumn" = some (.ref c_NoColumn)
  e_NoColumn : ErF P K mg es ⟨"NoColumn", c_NoColumn, some ("name" : Str)⟩ "name"
  c_NoTable : Addr
  g_NoTable : mg "NoTable" = some (.ref c_NoTable)
  e_NoTable : ErF P K mg es ⟨"NoTable", c_NoTable, some ("table" : Str)⟩ "table"
  c_NotPlain : Addr
  g_NotPlain : mg "NotPlain" = some (.ref c_NotPlain)
  e_NotPlain : ErF P K mg es ⟨"NotPlain", c_NotPlain, some ("where" : Str)⟩ "where"
  c_NothingDone : Addr
  g_NothingDone : mg "NothingDone" = some (.ref c_NothingDone)
  e_NothingDone : ErB K mg es ⟨"NothingDone", c_NothingDone, none⟩
  c_OtherTables : Addr
  g_OtherTables : mg "OtherTables" = some (.ref c_OtherTables)
  e_OtherTables : ErB K mg es ⟨"OtherTables", c_OtherTables, none⟩
  c_TooMany : Addr
  g_TooMany : mg "TooMany" = some (.ref c_TooMany)
  e_TooMany : ErF P K mg es ⟨"TooMany", c_TooMany, some ("most" : Str)⟩ "most"
  exc : ∀ c, c ∈ es → L2.ExcC K c.C
  flds : ∀ c, c ∈ es → fldT c.nm = c.fld
  str : ∀ c, c ∈ es → PySem.W.findIn K (.ref c.C) "__str__" = some (some (.builtin "BaseException.__str__"))
  no_at : ∀ c, c ∈ es → c.fld = some ("at" : Str) → PySem.W.findIn K (.ref c.C) "at" = some none
  no_most : ∀ c, c ∈ es → c.fld = some ("most" : Str) → PySem.W.findIn K (.ref c.C) "most" = some none
  no_name : ∀ c, c ∈ es → c.fld = some ("name" : Str) → PySem.W.findIn K (.ref c.C) "name" = some none
  no_path : ∀ c, c ∈ es → c.fld = some ("path" : Str) → PySem.W.findIn K (.ref c.C) "path" = some none
  no_row : ∀ c, c ∈ es → c.fld = some ("row" : Str) → PySem.W.findIn K (.ref c.C) "row" = some none
  no_table : ∀ c, c ∈ es → c.fld = some ("table" : Str) → PySem.W.findIn K (.ref c.C) "table" = some none
  no_where : ∀ c, c ∈ es → c.fld = some ("where" : Str) → PySem.W.findIn K (.ref c.C) "where" = some none
  is_BadAsk : ∀ c, c ∈ es → PySem.W.kitOne K (.ref c.C) (.ref c_BadAsk) = some (hit_BadAsk c.nm)
  isn_BadAsk : PySem.W.kitOne K (.type "NoneType") (.ref c_BadAsk) = some false
  is_BadAsked : ∀ c, c ∈ es → PySem.W.kitOne K (.ref c.C) (.ref c_BadAsked) = some (hit_BadAsked c.nm)
  isn_BadAsked : PySem.W.kitOne K (.type "NoneType") (.ref c_BadAsked) = some false
  is_BadJournal : ∀ c, c ∈ es → PySem.W.kitOne K (.ref c.C) (.ref c_BadJournal) = some (hit_BadJournal c.nm)
  isn_BadJournal : PySem.W.kitOne K (.type "NoneType") (.ref c_BadJournal) = some false
  is_BadLine : ∀ c, c ∈ es → PySem.W.kitOne K (.ref c.C) (.ref c_BadLine) = some (hit_BadLine c.nm)
  isn_BadLine : PySem.W.kitOne K (.type "NoneType") (.ref c_BadLine) = some false
  is_BadMore : ∀ c, c ∈ es → PySem.W.kitOne K (.ref c.C) (.ref c_BadMore) = some (hit_BadMore c.nm)
  isn_BadMore : PySem.W.kitOne K (.type "NoneType") (.ref c_BadMore) = some false
  is_BadName : ∀ c, c ∈ es → PySem.W.kitOne K (.ref c.C) (.ref c_BadName) = some (hit_BadName c.nm)
  isn_BadName : PySem.W.kitOne K (.type "NoneType") (.ref c_BadName) = some false
  is_BadNode : ∀ c, c ∈ es → PySem.W.kitOne K (.ref c.C) (.ref c_BadNode) = some (hit_BadNode c.nm)
  isn_BadNode : PySem.W.kitOne K (.type "NoneType") (.ref c_BadNode) = some false
  is_BadPath : ∀ c, c ∈ es → PySem.W.kitOne K (.ref c.C) (.ref c_BadPath) = some (hit_BadPath c.nm)
  isn_BadPath : PySem.W.kitOne K (.type "NoneType") (.ref c_BadPath) = some false
  is_BadProgram : ∀ c, c ∈ es → PySem.W.kitOne K (.ref c.C) (.ref c_BadProgram) = some (hit_BadProgram c.nm)
  isn_BadProgram : PySem.W.kitOne K (.type "NoneType") (.ref c_BadProgram) = some false
  is_BadRule : ∀ c, c ∈ es → PySem.W.kitOne K (.ref c.C) (.ref c_BadRule) = some (hit_BadRule c.nm)
  isn_BadRule : PySem.W.kitOne K (.type "NoneType") (.ref c_BadRule) = some false
  is_BadTables : ∀ c, c ∈ es → PySem.W.kitOne K (.ref c.C) (.ref c_BadTables) = some (hit_BadTables c.nm)
  isn_BadTables : PySem.W.kitOne K (.type "NoneType") (.ref c_BadTables) = some false
  is_BadText : ∀ c, c ∈ es → PySem.W.kitOne K (.ref c.C) (.ref c_BadText) = some (hit_BadText c.nm)
  isn_BadText : PySem.W.kitOne K (.type "NoneType") (.ref c_BadText) = some false
  is_EndError : ∀ c, c ∈ es → PySem.W.kitOne K (.ref c.C) (.ref c_EndError) = some (hit_EndError c.nm)
  isn_EndError : PySem.W.kitOne K (.type "NoneType") (.ref c_EndError) = some false
  is_IsThere : ∀ c, c ∈ es → PySem.W.kitOne K (.ref c.C) (.ref c_IsThere) = some (hit_IsThere c.nm)
  isn_IsThere : PySem.W.kitOne K (.type "NoneType") (.ref c_IsThere) = some false
  is_NoColumn : ∀ c, c ∈ es → PySem.W.kitOne K (.ref c.C) (.ref c_NoColumn) = some (hit_NoColumn c.nm)
  isn_NoColumn : PySem.W.kitOne K (.type "NoneType") (.ref c_NoColumn) = some false
  is_NoTable : ∀ c, c ∈ es → PySem.W.kitOne K (.ref c.C) (.ref c_NoTable) = some (hit_NoTable c.nm)
  isn_NoTable : PySem.W.kitOne K (.type "NoneType") (.ref c_NoTable) = some false
  is_NotPlain : ∀ c, c ∈ es → PySem.W.kitOne K (.ref c.C) (.ref c_NotPlain) = some (hit_NotPlain c.nm)
  isn_NotPlain : PySem.W.kitOne K (.type "NoneType") (.ref c_NotPlain) = some false
  is_NothingDone : ∀ c, c ∈ es → PySem.W.kitOne K (.ref c.C) (.ref c_NothingDone) = some (hit_NothingDone c.nm)
  isn_NothingDone : PySem.W.kitOne K (.type "NoneType") (.ref c_NothingDone) = some false
  is_OtherTables : ∀ c, c ∈ es → PySem.W.kitOne K (.ref c.C) (.ref c_OtherTables) = some (hit_OtherTables c.nm)
  isn_OtherTables : PySem.W.kitOne K (.type "NoneType") (.ref c_OtherTables) = some false
  is_TooMany : ∀ c, c ∈ es → PySem.W.kitOne K (.ref c.C) (.ref c_TooMany) = some (hit_TooMany c.nm)
  isn_TooMany : PySem.W.kitOne K (.type "NoneType") (.ref c_TooMany) = some false
  is_ValueError : ∀ c, c ∈ es → PySem.W.kitOne K (.ref c.C) (.type "ValueError") = some (hit_ValueError c.nm)
  isn_ValueError : PySem.W.kitOne K (.type "NoneType") (.type "ValueError") = some false
section
variable {P : Program} {w : World} {K : PySem.W.Frag} {mg : Str → Option Value} {base : Heap}
abbrev lay (x : Fx P K mg) : Lay := layOf K x.es (fun _ _ _ => False) noMore (fun _ _ _ _ _ => False)
theorem Fx.sp (x : Fx P K mg) {da : Option (Addr × Addr × Addr)} : ∀ F v q, EsSp K x.es F v q → ((lay x).fam da).sp F v q := lay_sp
theorem Fx.inn (x : Fx P K mg) {X : Cx} {W : WX} {da : Option (Addr × Addr × Addr)} (hK : X.K = K) : ErrIn X ((lay x).cf da W) x.es := lay_in hK x.exc
theorem sc_Lbegin : FnScope ["_law_script", "_law_great", "_law_cell"] ["_law_script"] (defScope s_Lbegin) := ⟨rfl, rfl, rfl, by decide +kernel, rfl, by decide +kernel, by decide +kernel⟩
def g_Lbegin : Sl → DM Fl := seqF (asgO 1 (lcF (itF (sGet 0)) (gSetD 2) (fun ρ => f2 geD (fCall (aCons (sGet 2) (fun _ => pure [])) absD) (f2 powD (fun _ => pure (.int 10)) (fun _ => pure (.int 18))) ρ >>= boolOf) (f2 subD (fCall (aCons (sGet 2) (fun _ => pure [])) absD) (f2 powD (fun _ => pure (.int 10)) (fun _ => pure (.int 18)))) [2])) (retDr 1 (lcF (itF (sGet 0)) (gSetD 2) (fun _ => pure true) (fCall (aCons (sGet 2) (fun _ => pure [])) absD) [2]))
def m_Lbegin : List PyData → DM PyData := runO 3 g_Lbegin
theorem b_Lbegin (x : Fx P K mg) : L2.Binds K x.d_Lbegin ["_law_script"] [] := x.F_Lbegin.bindsN fun _ _ _ _ _ _ us hl => match us, hl with | [_], _ => rfl
theorem ok_Lbegin (x : Fx P K mg) : FnG P w K mg base (L2.CX P w) 3 x.a_Lbegin x.d_Lbegin ["_law_script"] (spD (lay x) 1 m_Lbegin RDr) := by
  refine fn_okR (R := RDr) (L := lay x) x.F_Lbegin sc_Lbegin (by decide) (κ := [false, true, false]) (κ' := [false, true, false]) (by decide) (fun cdv A outer s H E da hr hgd => ?_)
  exact pssd_cons (psd_setLcO 1 rfl (by rfl) (by decide) (lc_both (own := [("_law_cell", 2)]) rfl sc_Lbegin.nd (pid_seq rfl (pd_var 0 (pv 0) (by decide))) ⟨rfl, by decide +kernel, (by dsimp only [cxOf, Cx.blk, envOfC, compEnvC]; decide +kernel), (by dsimp only [cxOf, Cx.blk, envOfC, compEnvC]; decide +kernel), (by dsimp only [cxOf, Cx.blk, envOfC, compEnvC]; decide +kernel)⟩ (fun _ _ _ _ _ => pgd_name 2 (pg_name sc_Lbegin.nd rfl (Or.inl rfl)) (by decide)) (fun _ _ _ _ _ => ptsd_one (pt_cmpD opd_ge ((px_callB RD.ok (calld_abs) x.n_abs (by decide +kernel) (pqd_cons (pb_var 2 (pv 2)) (pqd_nil))).bor) ((px_op RD.ok opd_pow ((pd_int).bor) ((pd_int).bor)).bor) (by rfl))) (fun _ _ _ _ _ => px_op RD.ok opd_sub ((px_callB RD.ok (calld_abs) x.n_abs (by decide +kernel) (pqd_cons (pb_var 2 (pv 2)) (pqd_nil))).bor) ((px_op RD.ok opd_pow ((pd_int).bor) ((pd_int).bor)).bor)) (by decide))) (pssd_one (psd_retDr 1 (pv 1) (by decide) (po_lc (own := [("_law_cell", 2)]) rfl sc_Lbegin.nd (pid_seq rfl (pd_var 0 (pv 0) (by decide))) ⟨rfl, by decide +kernel, (by dsimp only [cxOf, Cx.blk, envOfC, compEnvC]; decide +kernel), (by dsimp only [cxOf, Cx.blk, envOfC, compEnvC]; decide +kernel), (by dsimp only [cxOf, Cx.blk, envOfC, compEnvC]; decide +kernel)⟩ (fun _ _ _ _ _ => pgd_name 2 (pg_name sc_Lbegin.nd rfl (Or.inl rfl)) (by decide)) (fun _ _ _ _ _ => ptsd_nil) (fun _ _ _ _ _ => px_callB RD.ok (calld_abs) x.n_abs (by decide +kernel) (pqd_cons (pb_var 2 (pv 2)) (pqd_nil))) (by decide))))
theorem sc_Lblend : FnScope ["_law_draw", "_law_turn", "_law_found", "_law_prime", "_law_blend_here", "_law_cell"] ["_law_draw"] (defScope s_Lblend) := ⟨rfl, rfl, rfl, by decide +kernel, rfl, by decide +kernel, by decide +kernel⟩
def g_Lblend : Sl → DM Fl := seqF (asgF (f2 addD (drI (·.turn) (sGet 0)) (fun _ => pure (.int 1))) (gSetD 1)) (seqF (drPut (fun s i => { s with turn := i }) (sGet 1) (sGet 0)) (seqF (asgF (fun _ => pure (.int 0)) (gSetD 2)) (seqF (forF (itF (mLst (aCons (fun _ => pure (.int 2147483629)) (aCons (fun _ => pure (.int 2147483587)) (aCons (fun _ => pure (.int 2147483579)) (aCons (fun _ => pure (.int 2147483563)) (fun _ => pure []))))))) (gSetD 3) (seqF (asgF (f2 modD (fCall (aCons (f2 addD (f2 mulD (sGet 1) (fun _ => pure (.int 69621))) (f2 fdivD (sGet 3) (fun _ => pure (.int 7)))) (fun _ => pure [])) intD) (sGet 3)) (gSetD 4)) (seqF (forF (itF (drC (sGet 0))) (gSetD 5) (asgF (f2 modD (fCall (aCons (f2 addD (f2 mulD (sGet 4) (fun _ => pure (.int 48271))) (sGet 5)) (fun _ => pure [])) intD) (sGet 3)) (gSetD 4))) (asgF (f2 addD (f2 mulD (sGet 2) (fun _ => pure (.int 2147483647))) (f2 modD (fCall (aCons (f2 powD (sGet 4) (fun _ => pure (.int 5))) (fun _ => pure [])) intD) (sGet 3))) (gSetD 2))))) (retF (sGet 2)))))
def m_Lblend : List PyData → DM PyData := runB 6 g_Lblend
theorem b_Lblend (x : Fx P K mg) : L2.Binds K x.d_Lblend ["_law_draw"] [] := x.F_Lblend.bindsN fun _ _ _ _ _ _ us hl => match us, hl with | [_], _ => rfl
theorem ok_Lblend (x : Fx P K mg) : FnG P w K mg base (L2.CX P w) 3 x.a_Lblend x.d_Lblend ["_law_draw"] (spD (lay x) 1 m_Lblend RD) := by
  refine fn_okD (L := lay x) x.F_Lblend sc_Lblend (by decide) (κ := [false, false, false, false, false, false]) (κ' := [false, false, false, false, false, false]) (by decide) (fun cdv A outer s H E da hr hgd => ?_)
  have dr : DrSp ((lay x).fam da) := lay_dr
  exact pssd_cons (psd_set 1 sc_Lblend.nd rfl (Or.inl rfl) (by decide) (px_op RD.ok (opd_add rfl) ((pd_drI drF_turn dr (u1 hr) (pd_var 0 (pv 0) (by decide))).bor) ((pd_int).bor))) (pssd_cons (psd_drPut drF_turn dr (u1 hr) (pd_var 0 (pv 0) (by decide)) (pd_var 1 (pv 1) (by decide))) (pssd_cons (psd_set 2 sc_Lblend.nd rfl (Or.inl rfl) (by decide) (pd_int)) (pssd_cons (psd_for (passes_of rfl) rfl (pid_seq rfl ((po_lst (pad_cons (pd_int) (pad_cons (pd_int) (pad_cons (pd_int) (pad_cons (pd_int) (pad_nil)))))).frz)) (pgd_name 3 (pg_name sc_Lblend.nd rfl (Or.inl rfl)) (by decide)) (pssd_cons (psd_set 4 sc_Lblend.nd rfl (Or.inl rfl) (by decide) (px_op RD.ok opd_mod ((px_callTy RD.ok (calld_int) x.n_int (by decide +kernel) (pqd_cons ((px_op RD.ok (opd_add rfl) ((px_op RD.ok opd_mul (pb_var 1 (pv 1)) ((pd_int).bor)).bor) ((px_op RD.ok opd_fdiv (pb_var 3 (pv 3)) ((pd_int).bor)).bor)).bor) (pqd_nil))).bor) (pb_var 3 (pv 3)))) (pssd_cons (psd_for (passes_of rfl) rfl (pid_seq rfl (pd_drC dr (u1 hr) (pd_var 0 (pv 0) (by decide)))) (pgd_name 5 (pg_name sc_Lblend.nd rfl (Or.inl rfl)) (by decide)) (pssd_one (psd_set 4 sc_Lblend.nd rfl (Or.inl rfl) (by decide) (px_op RD.ok opd_mod ((px_callTy RD.ok (calld_int) x.n_int (by decide +kernel) (pqd_cons ((px_op RD.ok (opd_add rfl) ((px_op RD.ok opd_mul (pb_var 4 (pv 4)) ((pd_int).bor)).bor) (pb_var 5 (pv 5))).bor) (pqd_nil))).bor) (pb_var 3 (pv 3)))))) (pssd_one (psd_set 2 sc_Lblend.nd rfl (Or.inl rfl) (by decide) (px_op RD.ok (opd_add rfl) ((px_op RD.ok opd_mul (pb_var 2 (pv 2)) ((pd_int).bor)).bor) ((px_op RD.ok opd_mod ((px_callTy RD.ok (calld_int) x.n_int (by decide +kernel) (pqd_cons ((px_op RD.ok opd_pow (pb_var 4 (pv 4)) ((pd_int).bor)).bor) (pqd_nil))).bor) (pb_var 3 (pv 3))).bor))))))) (pssd_one (psd_ret RD.ok (pd_var 2 (pv 2) (by decide)))))))
theorem sc_Ltake : FnScope ["_law_draw", "_law_many", "_law_found"] ["_law_draw", "_law_many"] (defScope s_Ltake) := ⟨rfl, rfl, rfl, by decide +kernel, rfl, by decide +kernel, by decide +kernel⟩
def g_Ltake : Sl → DM Fl := seqF (ifF (bAnd (fun ρ => f2 eqD (drI (·.rest) (sGet 0)) (fun _ => pure (.int 0)) ρ >>= boolOf) (drNe (sGet 0))) (drPop 0) (fun ρ => pure (.nx ρ))) (seqF (ifF (fun ρ => f2 eqD (drI (·.rest) (sGet 0)) (fun _ => pure (.int 0)) ρ >>= boolOf) (drPut (fun s i => { s with rest := i }) (fun ρ => (aCons (sGet 0) (fun _ => pure [])) ρ >>= m_Lblend) (sGet 0)) (fun ρ => pure (.nx ρ))) (seqF (asgF (f2 modD (fCall (aCons (drI (·.rest) (sGet 0)) (fun _ => pure [])) intD) (sGet 1)) (gSetD 2)) (seqF (drPut (fun s i => { s with rest := i }) (f2 fdivD (drI (·.rest) (sGet 0)) (sGet 1)) (sGet 0)) (retF (sGet 2)))))
def m_Ltake : List PyData → DM PyData := runB 3 g_Ltake
theorem b_Ltake (x : Fx P K mg) : L2.Binds K x.d_Ltake ["_law_draw", "_law_many"] [] := x.F_Ltake.bindsN fun _ _ _ _ _ _ us hl => match us, hl with | [_, _], _ => rfl
theorem ok_Ltake (x : Fx P K mg) : FnG P w K mg base (L2.CX P w) 4 x.a_Ltake x.d_Ltake ["_law_draw", "_law_many"] (spD (lay x) 2 m_Ltake RD) := by
  refine fn_okD (L := lay x) x.F_Ltake sc_Ltake (by decide) (κ := [false, false, false]) (κ' := [false, false, false]) (by decide) (fun cdv A outer s H E da hr hgd => ?_)
  have dr : DrSp ((lay x).fam da) := lay_dr
  exact pssd_cons (psd_if (ptd_w (ptd_and (pt_cmpD (opd_eq rfl (u64 hr)) ((pd_drI drF_rest dr (u1 hr) (pd_var 0 (pv 0) (by decide))).bor) ((pd_int).bor) (by rfl)) (ptd_and1 (ptd_drNe dr rfl (u64 hr) (pd_var 0 (pv 0) (by decide)) (by rfl))))) (pssd_one (psd_drPop dr rfl (u1 hr) 0 (pv 0) (pv 0) (by decide))) (pssd_nil)) (pssd_cons (psd_if (pt_cmpD (opd_eq rfl (u64 hr)) ((pd_drI drF_rest dr (u1 hr) (pd_var 0 (pv 0) (by decide))).bor) ((pd_int).bor) (by rfl)) (pssd_one (psd_drPut drF_rest dr (u1 hr) (pd_var 0 (pv 0) (by decide)) (px_call (ok_Lblend x) (fun _ => RD.ok) (hr.mono (by decide)) hgd x.g_Lblend x.F_Lblend.kp (b_Lblend x) (takes_of rfl rfl rfl rfl) (pan_cons (pd_var 0 (pv 0) (by decide)) (pan_nil))))) (pssd_nil)) (pssd_cons (psd_set 2 sc_Ltake.nd rfl (Or.inl rfl) (by decide) (px_op RD.ok opd_mod ((px_callTy RD.ok (calld_int) x.n_int (by decide +kernel) (pqd_cons ((pd_drI drF_rest dr (u1 hr) (pd_var 0 (pv 0) (by decide))).bor) (pqd_nil))).bor) (pb_var 1 (pv 1)))) (pssd_cons (psd_drPut drF_rest dr (u1 hr) (pd_var 0 (pv 0) (by decide)) (px_op RD.ok opd_fdiv ((pd_drI drF_rest dr (u1 hr) (pd_var 0 (pv 0) (by decide))).bor) (pb_var 1 (pv 1)))) (pssd_one (psd_ret RD.ok (pd_var 2 (pv 2) (by decide)))))))
theorem sc_Lpick : FnScope ["_law_draw", "_law_some"] ["_law_draw", "_law_some"] (defScope s_Lpick) := ⟨rfl, rfl, rfl, by decide +kernel, rfl, by decide +kernel, by decide +kernel⟩
def g_Lpick : Sl → DM Fl := retF (f2 ixD (sGet 1) (fun ρ => (aCons (sGet 0) (aCons (fCall (aCons (sGet 1) (fun _ => pure [])) lenD) (fun _ => pure []))) ρ >>= m_Ltake))
def m_Lpick : List PyData → DM PyData := runB 2 g_Lpick
theorem b_Lpick (x : Fx P K mg) : L2.Binds K x.d_Lpick ["_law_draw", "_law_some"] [] := x.F_Lpick.bindsN fun _ _ _ _ _ _ us hl => match us, hl with | [_, _], _ => rfl
theorem ok_Lpick (x : Fx P K mg) : FnG P w K mg base (L2.CX P w) 5 x.a_Lpick x.d_Lpick ["_law_draw", "_law_some"] (spD (lay x) 2 m_Lpick RD) := by
  refine fn_okD (L := lay x) x.F_Lpick sc_Lpick (by decide) (κ := [false, false]) (κ' := [false, false]) (by decide) (fun cdv A outer s H E da hr hgd => ?_)
  have dr : DrSp ((lay x).fam da) := lay_dr
  exact pssd_one (psd_ret RD.ok (px_ix rfl (pb_var 1 (pv 1)) (px_call (ok_Ltake x) (fun _ => RD.ok) (hr.mono (by decide)) hgd x.g_Ltake x.F_Ltake.kp (b_Ltake x) (takes_of rfl rfl rfl rfl) (pan_cons (pd_var 0 (pv 0) (by decide)) (pan_cons (px_callB RD.ok (calld_len rfl) x.n_len (by decide +kernel) (pqd_cons (pb_var 1 (pv 1)) (pqd_nil))) (pan_nil))))))
theorem sc_Lmarks : FnScope ["_law_error", "_law_some"] ["_law_error"] (defScope s_Lmarks) := ⟨rfl, rfl, rfl, by decide +kernel, rfl, by decide +kernel, by decide +kernel⟩
def g_Lmarks : Sl → DM Fl := seqF (asgF (mLst (aCons (fun ρ => (sGet 0) ρ >>= isE hit_BadTables) (aCons (fun ρ => (sGet 0) ρ >>= isE hit_BadNode) (aCons (fun ρ => (sGet 0) ρ >>= isE hit_BadAsked) (fun _ => pure []))))) (gSetD 1)) (seqF (asgF (f2 addL (sGet 1) (mLst (aCons (fun ρ => (sGet 0) ρ >>= isE hit_BadRule) (aCons (fun ρ => (sGet 0) ρ >>= isE hit_NotPlain) (aCons (fun ρ => (sGet 0) ρ >>= isE hit_BadProgram) (fun _ => pure [])))))) (gSetD 1)) (seqF (asgF (f2 addL (sGet 1) (mLst (aCons (fun ρ => (sGet 0) ρ >>= isE hit_BadMore) (aCons (fun ρ => (sGet 0) ρ >>= isE hit_BadPath) (aCons (fun ρ => (sGet 0) ρ >>= isE hit_BadAsk) (fun _ => pure [])))))) (gSetD 1)) (seqF (asgF (f2 addL (sGet 1) (mLst (aCons (fun ρ => (sGet 0) ρ >>= isE hit_TooMany) (aCons (fun ρ => (sGet 0) ρ >>= isE hit_OtherTables) (aCons (fun ρ => (sGet 0) ρ >>= isE hit_NoTable) (fun _ => pure [])))))) (gSetD 1)) (seqF (asgF (f2 addL (sGet 1) (mLst (aCons (fun ρ => (sGet 0) ρ >>= isE hit_BadName) (aCons (fun ρ => (sGet 0) ρ >>= isE hit_IsThere) (aCons (fun ρ => (sGet 0) ρ >>= isE hit_NoColumn) (fun _ => pure [])))))) (gSetD 1)) (seqF (asgF (f2 addL (sGet 1) (mLst (aCons (fun ρ => (sGet 0) ρ >>= isE hit_NothingDone) (aCons (fun ρ => (sGet 0) ρ >>= isE hit_BadJournal) (aCons (fun ρ => (sGet 0) ρ >>= isE hit_BadText) (fun _ => pure [])))))) (gSetD 1)) (retF (f2 addL (sGet 1) (mLst (aCons (fun ρ => (sGet 0) ρ >>= isE hit_BadLine) (fun _ => pure []))))))))))
def m_Lmarks : List PyData → DM PyData := runB 2 g_Lmarks
theorem b_Lmarks (x : Fx P K mg) : L2.Binds K x.d_Lmarks ["_law_error"] [] := x.F_Lmarks.bindsN fun _ _ _ _ _ _ us hl => match us, hl with | [_], _ => rfl
theorem ok_Lmarks (x : Fx P K mg) : FnG P w K mg base (L2.CX P w) 3 x.a_Lmarks x.d_Lmarks ["_law_error"] (spD (lay x) 1 m_Lmarks RD) := by
  refine fn_okD (L := lay x) x.F_Lmarks sc_Lmarks (by decide) (κ := [false, false]) (κ' := [false, false]) (by decide) (fun cdv A outer s H E da hr hgd => ?_)
  have dr : DrSp ((lay x).fam da) := lay_dr
  exact pssd_cons (psd_set 1 sc_Lmarks.nd rfl (Or.inl rfl) (by decide) ((po_lst (pad_cons (pd_isE (hit := hit_BadTables) rfl (x.inn rfl) (.own x.c_BadTables) x.is_BadTables x.isn_BadTables x.n_isinstance (pd_var 0 (pv 0) (by decide)) (pe_glob (by rfl) x.g_BadTables (by rfl))) (pad_cons (pd_isE (hit := hit_BadNode) rfl (x.inn rfl) (.own x.c_BadNode) x.is_BadNode x.isn_BadNode x.n_isinstance (pd_var 0 (pv 0) (by decide)) (pe_glob (by rfl) x.g_BadNode (by rfl))) (pad_cons (pd_isE (hit := hit_BadAsked) rfl (x.inn rfl) (.own x.c_BadAsked) x.is_BadAsked x.isn_BadAsked x.n_isinstance (pd_var 0 (pv 0) (by decide)) (pe_glob (by rfl) x.g_BadAsked (by rfl))) (pad_nil))))).frz)) (pssd_cons (psd_set 1 sc_Lmarks.nd rfl (Or.inl rfl) (by decide) ((px_op RO.ok (opd_addL rfl) (pb_var 1 (pv 1)) ((po_lst (pad_cons (pd_isE (hit := hit_BadRule) rfl (x.inn rfl) (.own x.c_BadRule) x.is_BadRule x.isn_BadRule x.n_isinstance (pd_var 0 (pv 0) (by decide)) (pe_glob (by rfl) x.g_BadRule (by rfl))) (pad_cons (pd_isE (hit := hit_NotPlain) rfl (x.inn rfl) (.own x.c_NotPlain) x.is_NotPlain x.isn_NotPlain x.n_isinstance (pd_var 0 (pv 0) (by decide)) (pe_glob (by rfl) x.g_NotPlain (by rfl))) (pad_cons (pd_isE (hit := hit_BadProgram) rfl (x.inn rfl) (.own x.c_BadProgram) x.is_BadProgram x.isn_BadProgram x.n_isinstance (pd_var 0 (pv 0) (by decide)) (pe_glob (by rfl) x.g_BadProgram (by rfl))) (pad_nil))))).borO)).frz)) (pssd_cons (psd_set 1 sc_Lmarks.nd rfl (Or.inl rfl) (by decide) ((px_op RO.ok (opd_addL rfl) (pb_var 1 (pv 1)) ((po_lst (pad_cons (pd_isE (hit := hit_BadMore) rfl (x.inn rfl) (.own x.c_BadMore) x.is_BadMore x.isn_BadMore x.n_isinstance (pd_var 0 (pv 0) (by decide)) (pe_glob (by rfl) x.g_BadMore (by rfl))) (pad_cons (pd_isE (hit := hit_BadPath) rfl (x.inn rfl) (.own x.c_BadPath) x.is_BadPath x.isn_BadPath x.n_isinstance (pd_var 0 (pv 0) (by decide)) (pe_glob (by rfl) x.g_BadPath (by rfl))) (pad_cons (pd_isE (hit := hit_BadAsk) rfl (x.inn rfl) (.own x.c_BadAsk) x.is_BadAsk x.isn_BadAsk x.n_isinstance (pd_var 0 (pv 0) (by decide)) (pe_glob (by rfl) x.g_BadAsk (by rfl))) (pad_nil))))).borO)).frz)) (pssd_cons (psd_set 1 sc_Lmarks.nd rfl (Or.inl rfl) (by decide) ((px_op RO.ok (opd_addL rfl) (pb_var 1 (pv 1)) ((po_lst (pad_cons (pd_isE (hit := hit_TooMany) rfl (x.inn rfl) (.own x.c_TooMany) x.is_TooMany x.isn_TooMany x.n_isinstance (pd_var 0 (pv 0) (by decide)) (pe_glob (by rfl) x.g_TooMany (by rfl))) (pad_cons (pd_isE (hit := hit_OtherTables) rfl (x.inn rfl) (.own x.c_OtherTables) x.is_OtherTables x.isn_OtherTables x.n_isinstance (pd_var 0 (pv 0) (by decide)) (pe_glob (by rfl) x.g_OtherTables (by rfl))) (pad_cons (pd_isE (hit := hit_NoTable) rfl (x.inn rfl) (.own x.c_NoTable) x.is_NoTable x.isn_NoTable x.n_isinstance (pd_var 0 (pv 0) (by decide)) (pe_glob (by rfl) x.g_NoTable (by rfl))) (pad_nil))))).borO)).frz)) (pssd_cons (psd_set 1 sc_Lmarks.nd rfl (Or.inl rfl) (by decide) ((px_op RO.ok (opd_addL rfl) (pb_var 1 (pv 1)) ((po_lst (pad_cons (pd_isE (hit := hit_BadName) rfl (x.inn rfl) (.own x.c_BadName) x.is_BadName x.isn_BadName x.n_isinstance (pd_var 0 (pv 0) (by decide)) (pe_glob (by rfl) x.g_BadName (by rfl))) (pad_cons (pd_isE (hit := hit_IsThere) rfl (x.inn rfl) (.own x.c_IsThere) x.is_IsThere x.isn_IsThere x.n_isinstance (pd_var 0 (pv 0) (by decide)) (pe_glob (by rfl) x.g_IsThere (by rfl))) (pad_cons (pd_isE (hit := hit_NoColumn) rfl (x.inn rfl) (.own x.c_NoColumn) x.is_NoColumn x.isn_NoColumn x.n_isinstance (pd_var 0 (pv 0) (by decide)) (pe_glob (by rfl) x.g_NoColumn (by rfl))) (pad_nil))))).borO)).frz)) (pssd_cons (psd_set 1 sc_Lmarks.nd rfl (Or.inl rfl) (by decide) ((px_op RO.ok (opd_addL rfl) (pb_var 1 (pv 1)) ((po_lst (pad_cons (pd_isE (hit := hit_NothingDone) rfl (x.inn rfl) (.own x.c_NothingDone) x.is_NothingDone x.isn_NothingDone x.n_isinstance (pd_var 0 (pv 0) (by decide)) (pe_glob (by rfl) x.g_NothingDone (by rfl))) (pad_cons (pd_isE (hit := hit_BadJournal) rfl (x.inn rfl) (.own x.c_BadJournal) x.is_BadJournal x.isn_BadJournal x.n_isinstance (pd_var 0 (pv 0) (by decide)) (pe_glob (by rfl) x.g_BadJournal (by rfl))) (pad_cons (pd_isE (hit := hit_BadText) rfl (x.inn rfl) (.own x.c_BadText) x.is_BadText x.isn_BadText x.n_isinstance (pd_var 0 (pv 0) (by decide)) (pe_glob (by rfl) x.g_BadText (by rfl))) (pad_nil))))).borO)).frz)) (pssd_one (psd_ret RD.ok ((px_op RO.ok (opd_addL rfl) (pb_var 1 (pv 1)) ((po_lst (pad_cons (pd_isE (hit := hit_BadLine) rfl (x.inn rfl) (.own x.c_BadLine) x.is_BadLine x.isn_BadLine x.n_isinstance (pd_var 0 (pv 0) (by decide)) (pe_glob (by rfl) x.g_BadLine (by rfl))) (pad_nil))).borO)).frz))))))))
theorem sc_Lalone : FnScope ["_law_error", "_law_place", "_law_due", "_law_k"] ["_law_error", "_law_place"] (defScope s_Lalone) := ⟨rfl, rfl, rfl, by decide +kernel, rfl, by decide +kernel, by decide +kernel⟩
def g_Lalone : Sl → DM Fl := seqF (asgF (lcF (rng1 (fun _ => pure (.int 19))) (gSetD 3) (fun _ => pure true) (f2 eqD (sGet 3) (sGet 1)) [3]) (gSetD 2)) (retF (vAnd (f2 eqD (fun ρ => (aCons (sGet 0) (fun _ => pure [])) ρ >>= m_Lmarks) (sGet 2)) (vAnd (fun ρ => (sGet 0) ρ >>= isE hit_EndError) (fun ρ => (sGet 0) ρ >>= isE hit_ValueError))))
def m_Lalone : List PyData → DM PyData := runB 4 g_Lalone
theorem b_Lalone (x : Fx P K mg) : L2.Binds K x.d_Lalone ["_law_error", "_law_place"] [] := x.F_Lalone.bindsN fun _ _ _ _ _ _ us hl => match us, hl with | [_, _], _ => rfl
theorem ok_Lalone (x : Fx P K mg) : FnG P w K mg base (L2.CX P w) 4 x.a_Lalone x.d_Lalone ["_law_error", "_law_place"] (spD (lay x) 2 m_Lalone RD) := by
  refine fn_okD (L := lay x) x.F_Lalone sc_Lalone (by decide) (κ := [false, false, false, false]) (κ' := [false, false, false, false]) (by decide) (fun cdv A outer s H E da hr hgd => ?_)
  have dr : DrSp ((lay x).fam da) := lay_dr
  exact pssd_cons (psd_setLc 2 rfl (by rfl) (by decide) (lc_both (own := [("_law_k", 3)]) rfl sc_Lalone.nd (pid_range1 x.n_range (pd_int)) ⟨rfl, by decide +kernel, (by dsimp only [cxOf, Cx.blk, envOfC, compEnvC]; decide +kernel), (by dsimp only [cxOf, Cx.blk, envOfC, compEnvC]; decide +kernel), (by dsimp only [cxOf, Cx.blk, envOfC, compEnvC]; decide +kernel)⟩ (fun _ _ _ _ _ => pgd_name 3 (pg_name sc_Lalone.nd rfl (Or.inl rfl)) (by decide)) (fun _ _ _ _ _ => ptsd_nil) (fun _ _ _ _ _ => px_cmp RD.ok (opd_eq rfl (u64 hr)) (pb_var 3 (pv 3)) (pb_var 1 (pv 1)) (by rfl)) (by decide))) (pssd_one (psd_ret RD.ok (pd_and (px_cmp RD.ok (opd_eq rfl (u64 hr)) ((px_call (ok_Lmarks x) (fun _ => RD.ok) (hr.mono (by decide)) hgd x.g_Lmarks x.F_Lmarks.kp (b_Lmarks x) (takes_of rfl rfl rfl rfl) (pan_cons (pd_var 0 (pv 0) (by decide)) (pan_nil))).bor) (pb_var 2 (pv 2)) (by rfl)) (pd_and (pd_isE (hit := hit_EndError) rfl (x.inn rfl) (.own x.c_EndError) x.is_EndError x.isn_EndError x.n_isinstance (pd_var 0 (pv 0) (by decide)) (pe_glob (by rfl) x.g_EndError (by rfl))) (pd_one (pd_isE (hit := hit_ValueError) rfl (x.inn rfl) (.ty "ValueError") x.is_ValueError x.isn_ValueError x.n_isinstance (pd_var 0 (pv 0) (by decide)) (pe_tyG (by rfl) x.n_ValueError)))))))
theorem sc_Lplain : FnScope ["_law_page", "_law_some"] ["_law_page"] (defScope s_Lplain) := ⟨rfl, rfl, rfl, by decide +kernel, rfl, by decide +kernel, by decide +kernel⟩
def g_Lplain : Sl → DM Fl := seqF (asgF (mLst (aCons (mTup (aCons (fun _ => pure (.int 2)) (aCons (fMk "BadAsked" (sGet 0)) (fun _ => pure [])))) (aCons (mTup (aCons (fun _ => pure (.int 3)) (aCons (fMk "BadRule" (sGet 0)) (fun _ => pure [])))) (aCons (mTup (aCons (fun _ => pure (.int 5)) (aCons (fMk "BadProgram" (sGet 0)) (fun _ => pure [])))) (aCons (mTup (aCons (fun _ => pure (.int 7)) (aCons (fMk "BadPath" (sGet 0)) (fun _ => pure [])))) (aCons (mTup (aCons (fun _ => pure (.int 8)) (aCons (fMk "BadAsk" (sGet 0)) (fun _ => pure [])))) (fun _ => pure []))))))) (gSetD 1)) (retF (f2 addL (sGet 1) (mLst (aCons (mTup (aCons (fun _ => pure (.int 10)) (aCons (fMk "OtherTables" (sGet 0)) (fun _ => pure [])))) (aCons (mTup (aCons (fun _ => pure (.int 15)) (aCons (fMk "NothingDone" (sGet 0)) (fun _ => pure [])))) (aCons (mTup (aCons (fun _ => pure (.int 17)) (aCons (fMk "BadText" (sGet 0)) (fun _ => pure [])))) (fun _ => pure [])))))))
def m_Lplain : List PyData → DM PyData := runB 2 g_Lplain
theorem b_Lplain (x : Fx P K mg) : L2.Binds K x.d_Lplain ["_law_page"] [] := x.F_Lplain.bindsN fun _ _ _ _ _ _ us hl => match us, hl with | [_], _ => rfl
theorem ok_Lplain (x : Fx P K mg) : FnG P w K mg base (L2.CX P w) 3 x.a_Lplain x.d_Lplain ["_law_page"] (spD (lay x) 1 m_Lplain RD) := by
  refine fn_okD (L := lay x) x.F_Lplain sc_Lplain (by decide) (κ := [false, false]) (κ' := [false, false]) (by decide) (fun cdv A outer s H E da hr hgd => ?_)
  have dr : DrSp ((lay x).fam da) := lay_dr
  exact pssd_cons (psd_set 1 sc_Lplain.nd rfl (Or.inl rfl) (by decide) ((po_lst (pad_cons (pd_tup (pad_cons (pd_int) (pad_cons (pd_errB (c := ⟨"BadAsked", x.c_BadAsked, none⟩) x.e_BadAsked rfl x.sp (pd_var 0 (pv 0) (by decide))) (pad_nil)))) (pad_cons (pd_tup (pad_cons (pd_int) (pad_cons (pd_errB (c := ⟨"BadRule", x.c_BadRule, none⟩) x.e_BadRule rfl x.sp (pd_var 0 (pv 0) (by decide))) (pad_nil)))) (pad_cons (pd_tup (pad_cons (pd_int) (pad_cons (pd_errB (c := ⟨"BadProgram", x.c_BadProgram, none⟩) x.e_BadProgram rfl x.sp (pd_var 0 (pv 0) (by decide))) (pad_nil)))) (pad_cons (pd_tup (pad_cons (pd_int) (pad_cons (pd_errB (c := ⟨"BadPath", x.c_BadPath, none⟩) x.e_BadPath rfl x.sp (pd_var 0 (pv 0) (by decide))) (pad_nil)))) (pad_cons (pd_tup (pad_cons (pd_int) (pad_cons (pd_errB (c := ⟨"BadAsk", x.c_BadAsk, none⟩) x.e_BadAsk rfl x.sp (pd_var 0 (pv 0) (by decide))) (pad_nil)))) (pad_nil))))))).frz)) (pssd_one (psd_ret RD.ok ((px_op RO.ok (opd_addL rfl) (pb_var 1 (pv 1)) ((po_lst (pad_cons (pd_tup (pad_cons (pd_int) (pad_cons (pd_errB (c := ⟨"OtherTables", x.c_OtherTables, none⟩) x.e_OtherTables rfl x.sp (pd_var 0 (pv 0) (by decide))) (pad_nil)))) (pad_cons (pd_tup (pad_cons (pd_int) (pad_cons (pd_errB (c := ⟨"NothingDone", x.c_NothingDone, none⟩) x.e_NothingDone rfl x.sp (pd_var 0 (pv 0) (by decide))) (pad_nil)))) (pad_cons (pd_tup (pad_cons (pd_int) (pad_cons (pd_errB (c := ⟨"BadText", x.c_BadText, none⟩) x.e_BadText rfl x.sp (pd_var 0 (pv 0) (by decide))) (pad_nil)))) (pad_nil))))).borO)).frz)))
theorem sc_Lwith_fields : FnScope ["_law_item", "_law_some", "_law_done", "_law_k", "_law_error"] ["_law_item"] (defScope s_Lwith_fields) := ⟨rfl, rfl, rfl, by decide +kernel, rfl, by decide +kernel, by decide +kernel⟩
def g_Lwith_fields : Sl → DM Fl := seqF (asgO 1 (mLst (aCons (fMk "BadTables" (sGet 0)) (aCons (fMk "BadTables" (sGet 0)) (aCons (fMk "BadMore" (sGet 0)) (aCons (fMk "BadMore" (sGet 0)) (aCons (fMk "NoTable" (sGet 0)) (fun _ => pure [])))))))) (seqF (appF 1 (fMk "NoTable" (sGet 0))) (seqF (asgF (lcF (enumF (sGet 1)) (gTupD 2 (gsCons (gSetD 3) (gsCons (gSetD 4) (gsNil)))) (fun _ => pure true) (mTup (aCons (f2 ixD (mLst (aCons (fun _ => pure (.int 0)) (aCons (fun _ => pure (.int 6)) (aCons (fun _ => pure (.int 11)) (fun _ => pure []))))) (f2 fdivD (sGet 3) (fun _ => pure (.int 2)))) (aCons (sGet 4) (aCons (fun ρ => (sGet 4) ρ >>= attrE fldT "table") (fun _ => pure []))))) [3, 4]) (gSetD 2)) (seqF (asgF (mLst (aCons (fMk "BadName" (sGet 0)) (aCons (fMk "BadName" (sGet 0)) (aCons (fMk "IsThere" (sGet 0)) (aCons (fMk "IsThere" (sGet 0)) (aCons (fMk "NoColumn" (sGet 0)) (aCons (fMk "NoColumn" (sGet 0)) (fun _ => pure [])))))))) (gSetD 1)) (seqF (asgF (f2 addL (sGet 2) (lcF (enumF (sGet 1)) (gTupD 2 (gsCons (gSetD 3) (gsCons (gSetD 4) (gsNil)))) (fun _ => pure true) (mTup (aCons (f2 addD (fun _ => pure (.int 12)) (f2 fdivD (sGet 3) (fun _ => pure (.int 2)))) (aCons (sGet 4) (aCons (fun ρ => (sGet 4) ρ >>= attrE fldT "name") (fun _ => pure []))))) [3, 4])) (gSetD 2)) (seqF (asgF (f2 addL (sGet 2) (lcF (itF (mLst (aCons (fMk "BadNode" (sGet 0)) (aCons (fMk "BadNode" (sGet 0)) (fun _ => pure []))))) (gSetD 4) (fun _ => pure true) (mTup (aCons (fun _ => pure (.int 1)) (aCons (sGet 4) (aCons (fun ρ => (sGet 4) ρ >>= attrE fldT "path") (fun _ => pure []))))) [4])) (gSetD 2)) (seqF (asgF (f2 addL (sGet 2) (lcF (itF (mLst (aCons (fMk "NotPlain" (sGet 0)) (aCons (fMk "NotPlain" (sGet 0)) (fun _ => pure []))))) (gSetD 4) (fun _ => pure true) (mTup (aCons (fun _ => pure (.int 4)) (aCons (sGet 4) (aCons (fun ρ => (sGet 4) ρ >>= attrE fldT "where") (fun _ => pure []))))) [4])) (gSetD 2)) (seqF (asgF (f2 addL (sGet 2) (lcF (itF (mLst (aCons (fMk "TooMany" (sGet 0)) (aCons (fMk "TooMany" (sGet 0)) (fun _ => pure []))))) (gSetD 4) (fun _ => pure true) (mTup (aCons (fun _ => pure (.int 9)) (aCons (sGet 4) (aCons (fun ρ => (sGet 4) ρ >>= attrE fldT "most") (fun _ => pure []))))) [4])) (gSetD 2)) (seqF (asgF (f2 addL (sGet 2) (lcF (itF (mLst (aCons (fMk "BadJournal" (sGet 0)) (aCons (fMk "BadJournal" (sGet 0)) (fun _ => pure []))))) (gSetD 4) (fun _ => pure true) (mTup (aCons (fun _ => pure (.int 16)) (aCons (sGet 4) (aCons (fun ρ => (sGet 4) ρ >>= attrE fldT "at") (fun _ => pure []))))) [4])) (gSetD 2)) (retF (f2 addL (sGet 2) (lcF (itF (mLst (aCons (fMk "BadLine" (sGet 0)) (aCons (fMk "BadLine" (sGet 0)) (fun _ => pure []))))) (gSetD 4) (fun _ => pure true) (mTup (aCons (fun _ => pure (.int 18)) (aCons (sGet 4) (aCons (fun ρ => (sGet 4) ρ >>= attrE fldT "row") (fun _ => pure []))))) [4])))))))))))
def m_Lwith_fields : List PyData → DM PyData := runB 5 g_Lwith_fields
theorem b_Lwith_fields (x : Fx P K mg) : L2.Binds K x.d_Lwith_fields ["_law_item"] [] := x.F_Lwith_fields.bindsN fun _ _ _ _ _ _ us hl => match us, hl with | [_], _ => rfl
theorem ok_Lwith_fields (x : Fx P K mg) : FnG P w K mg base (L2.CX P w) 3 x.a_Lwith_fields x.d_Lwith_fields ["_law_item"] (spD (lay x) 1 m_Lwith_fields RD) := by
  refine fn_okD (L := lay x) x.F_Lwith_fields sc_Lwith_fields (by decide) (κ := [false, true, false, false, false]) (κ' := [false, false, false, false, false]) (by decide) (fun cdv A outer s H E da hr hgd => ?_)
  have dr : DrSp ((lay x).fam da) := lay_dr
  exact pssd_consF nb_asgO (psd_setO 1 sc_Lwith_fields.nd rfl (Or.inl rfl) (by decide) (po_lst (pad_cons (pd_errF (c := ⟨"BadTables", x.c_BadTables, some ("table" : Str)⟩) (k := 0) x.e_BadTables rfl x.sp (hr.mono (by decide)) (pd_var 0 (pv 0) (by decide))) (pad_cons (pd_errK (c := ⟨"BadTables", x.c_BadTables, some ("table" : Str)⟩) (k := 0) x.e_BadTables rfl x.sp (hr.mono (by decide)) (pd_var 0 (pv 0) (by decide))) (pad_cons (pd_errF (c := ⟨"BadMore", x.c_BadMore, some ("table" : Str)⟩) (k := 0) x.e_BadMore rfl x.sp (hr.mono (by decide)) (pd_var 0 (pv 0) (by decide))) (pad_cons (pd_errK (c := ⟨"BadMore", x.c_BadMore, some ("table" : Str)⟩) (k := 0) x.e_BadMore rfl x.sp (hr.mono (by decide)) (pd_var 0 (pv 0) (by decide))) (pad_cons (pd_errF (c := ⟨"NoTable", x.c_NoTable, some ("table" : Str)⟩) (k := 0) x.e_NoTable rfl x.sp (hr.mono (by decide)) (pd_var 0 (pv 0) (by decide))) (pad_nil)))))))) (pssd_consF nb_appF (psd_append 1 (pv 1) (by decide) (pd_errK (c := ⟨"NoTable", x.c_NoTable, some ("table" : Str)⟩) (k := 0) x.e_NoTable rfl x.sp (hr.mono (by decide)) (pd_var 0 (pv 0) (by decide))) (hK := rfl)) (pssd_frz 1 (pssd_cons (psd_setLc 2 rfl (by rfl) (by decide) (lc_both (own := [("_law_k", 3), ("_law_error", 4)]) rfl sc_Lwith_fields.nd (pid_enum rfl x.n_enumerate (pd_var 1 (pv 1) (by decide))) ⟨rfl, by decide +kernel, (by dsimp only [cxOf, Cx.blk, envOfC, compEnvC]; decide +kernel), (by dsimp only [cxOf, Cx.blk, envOfC, compEnvC]; decide +kernel), (by dsimp only [cxOf, Cx.blk, envOfC, compEnvC]; decide +kernel)⟩ (fun _ _ _ _ _ => pgd_tup rfl rfl (pgsd_cons (pgd_name 3 (pg_name sc_Lwith_fields.nd rfl (Or.inl rfl)) (by decide)) (pgsd_cons (pgd_name 4 (pg_name sc_Lwith_fields.nd rfl (Or.inl rfl)) (by decide)) (pgsd_nil)))) (fun _ _ _ _ _ => ptsd_nil) (fun _ _ _ _ _ => pd_tup (pad_cons (px_ix rfl ((po_lst (pad_cons (pd_int) (pad_cons (pd_int) (pad_cons (pd_int) (pad_nil))))).borO) (px_op RD.ok opd_fdiv (pb_var 3 (pv 3)) ((pd_int).bor))) (pad_cons (pd_var 4 (pv 4) (by decide)) (pad_cons (pd_attrE (flds := fldT) rfl (x.inn rfl) x.flds x.no_table (pd_var 4 (pv 4) (by decide))) (pad_nil))))) (by decide))) (pssd_cons (psd_set 1 sc_Lwith_fields.nd rfl (Or.inl rfl) (by decide) ((po_lst (pad_cons (pd_errF (c := ⟨"BadName", x.c_BadName, some ("name" : Str)⟩) (k := 0) x.e_BadName rfl x.sp (hr.mono (by decide)) (pd_var 0 (pv 0) (by decide))) (pad_cons (pd_errK (c := ⟨"BadName", x.c_BadName, some ("name" : Str)⟩) (k := 0) x.e_BadName rfl x.sp (hr.mono (by decide)) (pd_var 0 (pv 0) (by decide))) (pad_cons (pd_errF (c := ⟨"IsThere", x.c_IsThere, some ("name" : Str)⟩) (k := 0) x.e_IsThere rfl x.sp (hr.mono (by decide)) (pd_var 0 (pv 0) (by decide))) (pad_cons (pd_errK (c := ⟨"IsThere", x.c_IsThere, some ("name" : Str)⟩) (k := 0) x.e_IsThere rfl x.sp (hr.mono (by decide)) (pd_var 0 (pv 0) (by decide))) (pad_cons (pd_errF (c := ⟨"NoColumn", x.c_NoColumn, some ("name" : Str)⟩) (k := 0) x.e_NoColumn rfl x.sp (hr.mono (by decide)) (pd_var 0 (pv 0) (by decide))) (pad_cons (pd_errK (c := ⟨"NoColumn", x.c_NoColumn, some ("name" : Str)⟩) (k := 0) x.e_NoColumn rfl x.sp (hr.mono (by decide)) (pd_var 0 (pv 0) (by decide))) (pad_nil)))))))).frz)) (pssd_cons (psd_set 2 sc_Lwith_fields.nd rfl (Or.inl rfl) (by decide) ((px_op RO.ok (opd_addL rfl) (pb_var 2 (pv 2)) ((po_lc (own := [("_law_k", 3), ("_law_error", 4)]) rfl sc_Lwith_fields.nd (pid_enum rfl x.n_enumerate (pd_var 1 (pv 1) (by decide))) ⟨rfl, by decide +kernel, (by dsimp only [cxOf, Cx.blk, envOfC, compEnvC]; decide +kernel), (by dsimp only [cxOf, Cx.blk, envOfC, compEnvC]; decide +kernel), (by dsimp only [cxOf, Cx.blk, envOfC, compEnvC]; decide +kernel)⟩ (fun _ _ _ _ _ => pgd_tup rfl rfl (pgsd_cons (pgd_name 3 (pg_name sc_Lwith_fields.nd rfl (Or.inl rfl)) (by decide)) (pgsd_cons (pgd_name 4 (pg_name sc_Lwith_fields.nd rfl (Or.inl rfl)) (by decide)) (pgsd_nil)))) (fun _ _ _ _ _ => ptsd_nil) (fun _ _ _ _ _ => pd_tup (pad_cons (px_op RD.ok (opd_add rfl) ((pd_int).bor) ((px_op RD.ok opd_fdiv (pb_var 3 (pv 3)) ((pd_int).bor)).bor)) (pad_cons (pd_var 4 (pv 4) (by decide)) (pad_cons (pd_attrE (flds := fldT) rfl (x.inn rfl) x.flds x.no_name (pd_var 4 (pv 4) (by decide))) (pad_nil))))) (by decide)).borO)).frz)) (pssd_cons (psd_set 2 sc_Lwith_fields.nd rfl (Or.inl rfl) (by decide) ((px_op RO.ok (opd_addL rfl) (pb_var 2 (pv 2)) ((po_lc (own := [("_law_error", 4)]) rfl sc_Lwith_fields.nd (pid_seq rfl ((po_lst (pad_cons (pd_errF (c := ⟨"BadNode", x.c_BadNode, some ("path" : Str)⟩) (k := 0) x.e_BadNode rfl x.sp (hr.mono (by decide)) (pd_var 0 (pv 0) (by decide))) (pad_cons (pd_errK (c := ⟨"BadNode", x.c_BadNode, some ("path" : Str)⟩) (k := 0) x.e_BadNode rfl x.sp (hr.mono (by decide)) (pd_var 0 (pv 0) (by decide))) (pad_nil)))).frz)) ⟨rfl, by decide +kernel, (by dsimp only [cxOf, Cx.blk, envOfC, compEnvC]; decide +kernel), (by dsimp only [cxOf, Cx.blk, envOfC, compEnvC]; decide +kernel), (by dsimp only [cxOf, Cx.blk, envOfC, compEnvC]; decide +kernel)⟩ (fun _ _ _ _ _ => pgd_name 4 (pg_name sc_Lwith_fields.nd rfl (Or.inl rfl)) (by decide)) (fun _ _ _ _ _ => ptsd_nil) (fun _ _ _ _ _ => pd_tup (pad_cons (pd_int) (pad_cons (pd_var 4 (pv 4) (by decide)) (pad_cons (pd_attrE (flds := fldT) rfl (x.inn rfl) x.flds x.no_path (pd_var 4 (pv 4) (by decide))) (pad_nil))))) (by decide)).borO)).frz)) (pssd_cons (psd_set 2 sc_Lwith_fields.nd rfl (Or.inl rfl) (by decide) ((px_op RO.ok (opd_addL rfl) (pb_var 2 (pv 2)) ((po_lc (own := [("_law_error", 4)]) rfl sc_Lwith_fields.nd (pid_seq rfl ((po_lst (pad_cons (pd_errF (c := ⟨"NotPlain", x.c_NotPlain, some ("where" : Str)⟩) (k := 0) x.e_NotPlain rfl x.sp (hr.mono (by decide)) (pd_var 0 (pv 0) (by decide))) (pad_cons (pd_errK (c := ⟨"NotPlain", x.c_NotPlain, some ("where" : Str)⟩) (k := 0) x.e_NotPlain rfl x.sp (hr.mono (by decide)) (pd_var 0 (pv 0) (by decide))) (pad_nil)))).frz)) ⟨rfl, by decide +kernel, (by dsimp only [cxOf, Cx.blk, envOfC, compEnvC]; decide +kernel), (by dsimp only [cxOf, Cx.blk, envOfC, compEnvC]; decide +kernel), (by dsimp only [cxOf, Cx.blk, envOfC, compEnvC]; decide +kernel)⟩ (fun _ _ _ _ _ => pgd_name 4 (pg_name sc_Lwith_fields.nd rfl (Or.inl rfl)) (by decide)) (fun _ _ _ _ _ => ptsd_nil) (fun _ _ _ _ _ => pd_tup (pad_cons (pd_int) (pad_cons (pd_var 4 (pv 4) (by decide)) (pad_cons (pd_attrE (flds := fldT) rfl (x.inn rfl) x.flds x.no_where (pd_var 4 (pv 4) (by decide))) (pad_nil))))) (by decide)).borO)).frz)) (pssd_cons (psd_set 2 sc_Lwith_fields.nd rfl (Or.inl rfl) (by decide) ((px_op RO.ok (opd_addL rfl) (pb_var 2 (pv 2)) ((po_lc (own := [("_law_error", 4)]) rfl sc_Lwith_fields.nd (pid_seq rfl ((po_lst (pad_cons (pd_errF (c := ⟨"TooMany", x.c_TooMany, some ("most" : Str)⟩) (k := 0) x.e_TooMany rfl x.sp (hr.mono (by decide)) (pd_var 0 (pv 0) (by decide))) (pad_cons (pd_errK (c := ⟨"TooMany", x.c_TooMany, some ("most" : Str)⟩) (k := 0) x.e_TooMany rfl x.sp (hr.mono (by decide)) (pd_var 0 (pv 0) (by decide))) (pad_nil)))).frz)) ⟨rfl, by decide +kernel, (by dsimp only [cxOf, Cx.blk, envOfC, compEnvC]; decide +kernel), (by dsimp only [cxOf, Cx.blk, envOfC, compEnvC]; decide +kernel), (by dsimp only [cxOf, Cx.blk, envOfC, compEnvC]; decide +kernel)⟩ (fun _ _ _ _ _ => pgd_name 4 (pg_name sc_Lwith_fields.nd rfl (Or.inl rfl)) (by decide)) (fun _ _ _ _ _ => ptsd_nil) (fun _ _ _ _ _ => pd_tup (pad_cons (pd_int) (pad_cons (pd_var 4 (pv 4) (by decide)) (pad_cons (pd_attrE (flds := fldT) rfl (x.inn rfl) x.flds x.no_most (pd_var 4 (pv 4) (by decide))) (pad_nil))))) (by decide)).borO)).frz)) (pssd_cons (psd_set 2 sc_Lwith_fields.nd rfl (Or.inl rfl) (by decide) ((px_op RO.ok (opd_addL rfl) (pb_var 2 (pv 2)) ((po_lc (own := [("_law_error", 4)]) rfl sc_Lwith_fields.nd (pid_seq rfl ((po_lst (pad_cons (pd_errF (c := ⟨"BadJournal", x.c_BadJournal, some ("at" : Str)⟩) (k := 0) x.e_BadJournal rfl x.sp (hr.mono (by decide)) (pd_var 0 (pv 0) (by decide))) (pad_cons (pd_errK (c := ⟨"BadJournal", x.c_BadJournal, some ("at" : Str)⟩) (k := 0) x.e_BadJournal rfl x.sp (hr.mono (by decide)) (pd_var 0 (pv 0) (by decide))) (pad_nil)))).frz)) ⟨rfl, by decide +kernel, (by dsimp only [cxOf, Cx.blk, envOfC, compEnvC]; decide +kernel), (by dsimp only [cxOf, Cx.blk, envOfC, compEnvC]; decide +kernel), (by dsimp only [cxOf, Cx.blk, envOfC, compEnvC]; decide +kernel)⟩ (fun _ _ _ _ _ => pgd_name 4 (pg_name sc_Lwith_fields.nd rfl (Or.inl rfl)) (by decide)) (fun _ _ _ _ _ => ptsd_nil) (fun _ _ _ _ _ => pd_tup (pad_cons (pd_int) (pad_cons (pd_var 4 (pv 4) (by decide)) (pad_cons (pd_attrE (flds := fldT) rfl (x.inn rfl) x.flds x.no_at (pd_var 4 (pv 4) (by decide))) (pad_nil))))) (by decide)).borO)).frz)) (pssd_one (psd_ret RD.ok ((px_op RO.ok (opd_addL rfl) (pb_var 2 (pv 2)) ((po_lc (own := [("_law_error", 4)]) rfl sc_Lwith_fields.nd (pid_seq rfl ((po_lst (pad_cons (pd_errF (c := ⟨"BadLine", x.c_BadLine, some ("row" : Str)⟩) (k := 0) x.e_BadLine rfl x.sp (hr.mono (by decide)) (pd_var 0 (pv 0) (by decide))) (pad_cons (pd_errK (c := ⟨"BadLine", x.c_BadLine, some ("row" : Str)⟩) (k := 0) x.e_BadLine rfl x.sp (hr.mono (by decide)) (pd_var 0 (pv 0) (by decide))) (pad_nil)))).frz)) ⟨rfl, by decide +kernel, (by dsimp only [cxOf, Cx.blk, envOfC, compEnvC]; decide +kernel), (by dsimp only [cxOf, Cx.blk, envOfC, compEnvC]; decide +kernel), (by dsimp only [cxOf, Cx.blk, envOfC, compEnvC]; decide +kernel)⟩ (fun _ _ _ _ _ => pgd_name 4 (pg_name sc_Lwith_fields.nd rfl (Or.inl rfl)) (by decide)) (fun _ _ _ _ _ => ptsd_nil) (fun _ _ _ _ _ => pd_tup (pad_cons (pd_int) (pad_cons (pd_var 4 (pv 4) (by decide)) (pad_cons (pd_attrE (flds := fldT) rfl (x.inn rfl) x.flds x.no_row (pd_var 4 (pv 4) (by decide))) (pad_nil))))) (by decide)).borO)).frz))))))))))))
theorem sc_law : FnScope ["_law_script", "_law_draw", "_law_turn", "_law_page", "_law_item", "_law_ground", "_law_place", "_law_error", "_law_field"] ["_law_script"] (defScope s_law) := ⟨rfl, rfl, rfl, by decide +kernel, rfl, by decide +kernel, by decide +kernel⟩
def g_law : Sl → DM Fl := seqF (forF (rng1 (f2 addD (fun _ => pure (.int 1)) (fCall (aCons (fCall (aCons (sGet 0) (fun _ => pure [])) lenD) (aCons (fun _ => pure (.int 3)) (fun _ => pure []))) minD))) (gSetD 2) (seqF (asgF (fun ρ => (aCons (sGet 1) (aCons (mLst (aCons (fun _ => pure (.str "")) (aCons (fun _ => pure (.str "a")) (aCons (fun _ => pure (.str "no name")) (aCons (fun _ => pure (.str "join(A; B; k; _l _r)")) (fun _ => pure [])))))) (fun _ => pure []))) ρ >>= m_Lpick) (gSetD 3)) (seqF (asgF (fun ρ => (aCons (sGet 1) (aCons (mLst (aCons (fun _ => pure (.int 0)) (aCons (fun _ => pure (.int 1)) (aCons (fun _ => pure (.int 10)) (aCons (fun _ => pure .none) (aCons (fun _ => pure (.str "A")) (aCons (mTup (aCons (fun _ => pure (.int 1)) (aCons (fun _ => pure .none) (fun _ => pure [])))) (aCons (mTup (aCons (mTup (aCons (fun _ => pure (.int 0)) (fun _ => pure []))) (aCons (fun _ => pure (.str "k")) (fun _ => pure [])))) (aCons (mLst (aCons (fun _ => pure (.int 3)) (fun _ => pure []))) (aCons (f2 powD (fun _ => pure (.int 10)) (fun _ => pure (.int 12))) (fun _ => pure []))))))))))) (fun _ => pure []))) ρ >>= m_Lpick) (gSetD 4)) (seqF (forF (itF (f2 addL (fun ρ => (aCons (sGet 3) (fun _ => pure [])) ρ >>= m_Lplain) (mLst (aCons (mTup (aCons (fun _ => pure (.int 99)) (aCons (fMk "EndError" (sGet 3)) (fun _ => pure [])))) (fun _ => pure []))))) (gTupD 2 (gsCons (gSetD 6) (gsCons (gSetD 7) (gsNil)))) (ifF (bOr (fun ρ => f2 neD (fun ρ => (sGet 7) ρ >>= strE) (sGet 3) ρ >>= boolOf) (bAnd (fun ρ => f2 ltD (sGet 6) (fun _ => pure (.int 19)) ρ >>= boolOf) (bNot (fun ρ => (fun ρ => (aCons (sGet 7) (aCons (sGet 6) (fun _ => pure []))) ρ >>= m_Lalone) ρ >>= boolOf)))) (retF (fun _ => pure (.bool false))) (fun ρ => pure (.nx ρ)))) (seqF (forF (itF (fun ρ => (aCons (sGet 4) (fun _ => pure [])) ρ >>= m_Lwith_fields)) (gTupD 3 (gsCons (gSetD 6) (gsCons (gSetD 7) (gsCons (gSetD 8) (gsNil))))) (ifF (bOr (bNot (fun ρ => (fun ρ => (aCons (sGet 7) (aCons (sGet 6) (fun _ => pure []))) ρ >>= m_Lalone) ρ >>= boolOf)) (fun ρ => f2 neD (fCall (aCons (sGet 8) (fun _ => pure [])) reprD) (fCall (aCons (sGet 4) (fun _ => pure [])) reprD) ρ >>= boolOf)) (retF (fun _ => pure (.bool false))) (fun ρ => pure (.nx ρ)))) (seqF (asgF (fMk "EndError" (sGet 3)) (gSetD 5)) (ifF (bOr (fun ρ => f2 neD (fun ρ => (aCons (sGet 5) (fun _ => pure [])) ρ >>= m_Lmarks) (f2 repL (mLst (aCons (fun _ => pure (.bool false)) (fun _ => pure []))) (fun _ => pure (.int 19))) ρ >>= boolOf) (bNot (fun ρ => (fun ρ => (sGet 5) ρ >>= isE hit_ValueError) ρ >>= boolOf))) (retF (fun _ => pure (.bool false))) (fun ρ => pure (.nx ρ))))))))) (retF (fun _ => pure (.bool true)))
def f_law : Sl → DM PyData := fun ρ => (aCons (sGet 0) (fun _ => pure [])) ρ >>= m_Lbegin
def LawMath : Prop := ∀ ns : List Int, ns.length ≤ 63 → ∃ gs cs s1 s2, f_law (slots 9 [.list (ns.map PyData.int)]) ⟨[], 0, [], 0⟩ = .ok (encDr gs cs) s1 ∧ g_law ((slots 9 [.list (ns.map PyData.int)]).set 1 (some drwD)) ⟨gs, 0, cs, 0⟩ = .ok (.ret (.bool true)) s2
theorem ok_law (x : Fx P K mg) (hm : LawMath) : FnG P w K mg base (L2.CX P w) 6 x.a_law x.d_law ["_law_script"] (spLaw K) := by
  refine law_ok (L := lay x) (κ := [false, false, false, false, false, false, false, false, false]) (κ' := [false, false, false, false, false, false, false, false, false]) 1 x.F_law sc_law rfl (by decide) (by first | exact .inl rfl | exact .inr rfl) (by decide) (by decide) (fun _ => rfl) (fun p F => .inl ⟨rfl, p, rfl, rfl⟩) (fun cdv A outer s H E hr hgd => ?_) (fun _ _ _ _ _ _ => rfl) (fun cdv A outer s H E da hr hgd => ?_) hm
  · exact px_call (ok_Lbegin x) (fun _ => RDr.ok) (hr.mono (by decide)) hgd x.g_Lbegin x.F_Lbegin.kp (b_Lbegin x) (takes_of rfl rfl rfl rfl) (pan_cons (pd_var 0 (pv 0) (by decide)) pan_nil)
  · have dr : DrSp ((lay x).fam da) := lay_dr
    exact pssd_cons (psd_for (passes_of rfl) rfl (pid_range1 x.n_range (px_op RD.ok (opd_add rfl) ((pd_int).bor) ((px_callB RD.ok (calld_min rfl) x.n_min (by decide +kernel) (pqd_cons ((px_callB RD.ok (calld_len rfl) x.n_len (by decide +kernel) (pqd_cons (pb_var 0 (pv 0)) (pqd_nil))).bor) (pqd_cons ((pd_int).bor) (pqd_nil)))).bor))) (pgd_name 2 (pg_name sc_law.nd rfl (Or.inl rfl)) (by decide)) (pssd_cons (psd_set 3 sc_law.nd rfl (Or.inl rfl) (by decide) (px_call (ok_Lpick x) (fun _ => RD.ok) (hr.mono (by decide)) hgd x.g_Lpick x.F_Lpick.kp (b_Lpick x) (takes_of rfl rfl rfl rfl) (pan_cons (pd_var 1 (pv 1) (by decide)) (pan_cons ((po_lst (pad_cons (pd_str) (pad_cons (pd_str) (pad_cons (pd_str) (pad_cons (pd_str) (pad_nil)))))).frz) (pan_nil))))) (pssd_cons (psd_set 4 sc_law.nd rfl (Or.inl rfl) (by decide) (px_call (ok_Lpick x) (fun _ => RD.ok) (hr.mono (by decide)) hgd x.g_Lpick x.F_Lpick.kp (b_Lpick x) (takes_of rfl rfl rfl rfl) (pan_cons (pd_var 1 (pv 1) (by decide)) (pan_cons ((po_lst (pad_cons (pd_int) (pad_cons (pd_int) (pad_cons (pd_int) (pad_cons (pd_none) (pad_cons (pd_str) (pad_cons (pd_tup (pad_cons (pd_int) (pad_cons (pd_none) (pad_nil)))) (pad_cons (pd_tup (pad_cons (pd_tup (pad_cons (pd_int) (pad_nil))) (pad_cons (pd_str) (pad_nil)))) (pad_cons ((po_lst (pad_cons (pd_int) (pad_nil))).frz) (pad_cons (px_op RD.ok opd_pow ((pd_int).bor) ((pd_int).bor)) (pad_nil))))))))))).frz) (pan_nil))))) (pssd_cons (psd_for (passes_of rfl) rfl (pid_seq rfl ((px_op RO.ok (opd_addL rfl) ((px_call (ok_Lplain x) (fun _ => RD.ok) (hr.mono (by decide)) hgd x.g_Lplain x.F_Lplain.kp (b_Lplain x) (takes_of rfl rfl rfl rfl) (pan_cons (pd_var 3 (pv 3) (by decide)) (pan_nil))).bor) ((po_lst (pad_cons (pd_tup (pad_cons (pd_int) (pad_cons (pd_errB (c := ⟨"EndError", x.c_EndError, none⟩) x.e_EndError rfl x.sp (pd_var 3 (pv 3) (by decide))) (pad_nil)))) (pad_nil))).borO)).frz)) (pgd_tup rfl rfl (pgsd_cons (pgd_name 6 (pg_name sc_law.nd rfl (Or.inl rfl)) (by decide)) (pgsd_cons (pgd_name 7 (pg_name sc_law.nd rfl (Or.inl rfl)) (by decide)) (pgsd_nil)))) (pssd_one (psd_if (ptd_w (ptd_or (pt_cmpD (opd_ne rfl (u64 hr)) ((pd_strE rfl (x.inn rfl) x.str (u2 hr) x.n_str (pd_var 7 (pv 7) (by decide))).bor) (pb_var 3 (pv 3)) (by rfl)) (ptd_or1 (ptd_w (ptd_and (pt_cmpD opd_lt (pb_var 6 (pv 6)) ((pd_int).bor) (by rfl)) (ptd_and1 (ptd_not (pt_valD (px_call (ok_Lalone x) (fun _ => RD.ok) (hr.mono (by decide)) hgd x.g_Lalone x.F_Lalone.kp (b_Lalone x) (takes_of rfl rfl rfl rfl) (pan_cons (pd_var 7 (pv 7) (by decide)) (pan_cons (pd_var 6 (pv 6) (by decide)) (pan_nil)))))))))))) (pssd_one (psd_ret RD.ok (pd_bool))) (pssd_nil)))) (pssd_cons (psd_for (passes_of rfl) rfl (pid_seq rfl (px_call (ok_Lwith_fields x) (fun _ => RD.ok) (hr.mono (by decide)) hgd x.g_Lwith_fields x.F_Lwith_fields.kp (b_Lwith_fields x) (takes_of rfl rfl rfl rfl) (pan_cons (pd_var 4 (pv 4) (by decide)) (pan_nil)))) (pgd_tup rfl rfl (pgsd_cons (pgd_name 6 (pg_name sc_law.nd rfl (Or.inl rfl)) (by decide)) (pgsd_cons (pgd_name 7 (pg_name sc_law.nd rfl (Or.inl rfl)) (by decide)) (pgsd_cons (pgd_name 8 (pg_name sc_law.nd rfl (Or.inl rfl)) (by decide)) (pgsd_nil))))) (pssd_one (psd_if (ptd_w (ptd_or (ptd_not (pt_valD (px_call (ok_Lalone x) (fun _ => RD.ok) (hr.mono (by decide)) hgd x.g_Lalone x.F_Lalone.kp (b_Lalone x) (takes_of rfl rfl rfl rfl) (pan_cons (pd_var 7 (pv 7) (by decide)) (pan_cons (pd_var 6 (pv 6) (by decide)) (pan_nil)))))) (ptd_or1 (pt_cmpD (opd_ne rfl (u64 hr)) ((px_callB RD.ok (calld_repr rfl hgd (u64 hr)) x.n_repr (by decide +kernel) (pqd_cons (pb_var 8 (pv 8)) (pqd_nil))).bor) ((px_callB RD.ok (calld_repr rfl hgd (u64 hr)) x.n_repr (by decide +kernel) (pqd_cons (pb_var 4 (pv 4)) (pqd_nil))).bor) (by rfl))))) (pssd_one (psd_ret RD.ok (pd_bool))) (pssd_nil)))) (pssd_cons (psd_set 5 sc_law.nd rfl (Or.inl rfl) (by decide) (pd_errB (c := ⟨"EndError", x.c_EndError, none⟩) x.e_EndError rfl x.sp (pd_var 3 (pv 3) (by decide)))) (pssd_one (psd_if (ptd_w (ptd_or (pt_cmpD (opd_ne rfl (u64 hr)) ((px_call (ok_Lmarks x) (fun _ => RD.ok) (hr.mono (by decide)) hgd x.g_Lmarks x.F_Lmarks.kp (b_Lmarks x) (takes_of rfl rfl rfl rfl) (pan_cons (pd_var 5 (pv 5) (by decide)) (pan_nil))).bor) ((po_rep (po_lst (pad_cons (pd_bool) (pad_nil))) (pd_int)).borO) (by rfl)) (ptd_or1 (ptd_not (pt_valD (pd_isE (hit := hit_ValueError) rfl (x.inn rfl) (.ty "ValueError") x.is_ValueError x.isn_ValueError x.n_isinstance (pd_var 5 (pv 5) (by decide)) (pe_tyG (by rfl) x.n_ValueError))))))) (pssd_one (psd_ret RD.ok (pd_bool))) (pssd_nil))))))))) (pssd_one (psd_ret RD.ok (pd_bool)))
end
end K01

set_option Elab.async false
set_option autoImplicit false
set_option linter.all false
set_option maxRecDepth 100000
set_option maxHeartbeats 4000000
namespace K01
open PySem PySem.Spec PyProof.Rows L2 DL
def p1 : Sl → DM Fl := (asgF (fun ρ => (aCons (sGet 1) (aCons (mLst (aCons (fun _ => pure (.str "")) (aCons (fun _ => pure (.str "a")) (aCons (fun _ => pure (.str "no name")) (aCons (fun _ => pure (.str "join(A; B; k; _l _r)")) (fun _ => pure [])))))) (fun _ => pure []))) ρ >>= m_Lpick) (gSetD 3))
def p2 : Sl → DM Fl := (asgF (fun ρ => (aCons (sGet 1) (aCons (mLst (aCons (fun _ => pure (.int 0)) (aCons (fun _ => pure (.int 1)) (aCons (fun _ => pure (.int 10)) (aCons (fun _ => pure .none) (aCons (fun _ => pure (.str "A")) (aCons (mTup (aCons (fun _ => pure (.int 1)) (aCons (fun _ => pure .none) (fun _ => pure [])))) (aCons (mTup (aCons (mTup (aCons (fun _ => pure (.int 0)) (fun _ => pure []))) (aCons (fun _ => pure (.str "k")) (fun _ => pure [])))) (aCons (mLst (aCons (fun _ => pure (.int 3)) (fun _ => pure []))) (aCons (f2 powD (fun _ => pure (.int 10)) (fun _ => pure (.int 12))) (fun _ => pure []))))))))))) (fun _ => pure []))) ρ >>= m_Lpick) (gSetD 4))
def p3 : Sl → DM Fl := (forF (itF (f2 addL (fun ρ => (aCons (sGet 3) (fun _ => pure [])) ρ >>= m_Lplain) (mLst (aCons (mTup (aCons (fun _ => pure (.int 99)) (aCons (fMk "EndError" (sGet 3)) (fun _ => pure [])))) (fun _ => pure []))))) (gTupD 2 (gsCons (gSetD 6) (gsCons (gSetD 7) (gsNil)))) (ifF (bOr (fun ρ => f2 neD (fun ρ => (sGet 7) ρ >>= strE) (sGet 3) ρ >>= boolOf) (bAnd (fun ρ => f2 ltD (sGet 6) (fun _ => pure (.int 19)) ρ >>= boolOf) (bNot (fun ρ => (fun ρ => (aCons (sGet 7) (aCons (sGet 6) (fun _ => pure []))) ρ >>= m_Lalone) ρ >>= boolOf)))) (retF (fun _ => pure (.bool false))) (fun ρ => pure (.nx ρ))))
def p4 : Sl → DM Fl := (forF (itF (fun ρ => (aCons (sGet 4) (fun _ => pure [])) ρ >>= m_Lwith_fields)) (gTupD 3 (gsCons (gSetD 6) (gsCons (gSetD 7) (gsCons (gSetD 8) (gsNil))))) (ifF (bOr (bNot (fun ρ => (fun ρ => (aCons (sGet 7) (aCons (sGet 6) (fun _ => pure []))) ρ >>= m_Lalone) ρ >>= boolOf)) (fun ρ => f2 neD (fCall (aCons (sGet 8) (fun _ => pure [])) reprD) (fCall (aCons (sGet 4) (fun _ => pure [])) reprD) ρ >>= boolOf)) (retF (fun _ => pure (.bool false))) (fun ρ => pure (.nx ρ))))
def p5 : Sl → DM Fl := (asgF (fMk "EndError" (sGet 3)) (gSetD 5))
def p6 : Sl → DM Fl := (ifF (bOr (fun ρ => f2 neD (fun ρ => (aCons (sGet 5) (fun _ => pure [])) ρ >>= m_Lmarks) (f2 repL (mLst (aCons (fun _ => pure (.bool false)) (fun _ => pure []))) (fun _ => pure (.int 19))) ρ >>= boolOf) (bNot (fun ρ => (fun ρ => (sGet 5) ρ >>= isE hit_ValueError) ρ >>= boolOf))) (retF (fun _ => pure (.bool false))) (fun ρ => pure (.nx ρ)))
def itL : Sl → DM (List PyData) := (rng1 (f2 addD (fun _ => pure (.int 1)) (fCall (aCons (fCall (aCons (sGet 0) (fun _ => pure [])) lenD) (aCons (fun _ => pure (.int 3)) (fun _ => pure []))) minD)))
def gB : Sl → DM Fl := seqF p1 (seqF p2 (seqF p3 (seqF p4 (seqF p5 p6))))
theorem law_is : g_law = seqF (forF itL (gSetD 2) gB) (retF (fun _ => pure (.bool true))) := rfl
theorem pick_is : m_Lpick = mPick := rfl
theorem begin_is : m_Lbegin = runO 3 gBegin := rfl

def pages : List PyData := [.str "", .str "a", .str "no name", .str "join(A; B; k; _l _r)"]
def items : List PyData := [.int 0, .int 1, .int 10, .none, .str "A", .tuple [.int 1, .none], .tuple [.tuple [.int 0], .str "k"], .list [.int 3], .int 1000000000000]
abbrev Row (sc o2 a b o5 o6 o7 o8 : Option PyData) : Sl := [sc, some drwD, o2, a, b, o5, o6, o7, o8]
theorem p1_ok (sc o2 o3 o4 o5 o6 o7 o8 : Option PyData) (s : Drw) (hi : DrI s) : ∃ d s', d ∈ pages ∧ DrI s' ∧ p1 (Row sc o2 o3 o4 o5 o6 o7 o8) s = .ok (.nx (Row sc o2 (some d) o4 o5 o6 o7 o8)) s' := by
  obtain ⟨d, s', h1, h2, h3⟩ := pick_eq s hi pages (fun z => nomatch z) (by decide)
  refine ⟨d, s', h1, h2, ?_⟩
  have e : (aCons (sGet 1) (aCons (mLst (aCons (fun _ => pure (.str "")) (aCons (fun _ => pure (.str "a")) (aCons (fun _ => pure (.str "no name")) (aCons (fun _ => pure (.str "join(A; B; k; _l _r)")) (fun _ => pure [])))))) (fun _ => pure []))) (Row sc o2 o3 o4 o5 o6 o7 o8) s = .ok [drwD, .list pages] s := by kernel_rfl
  exact asgF_ok (s' := s') (d := d) ((bok e).trans (by rw [pick_is]; exact h3)) rfl
theorem p2_ok (sc o2 o3 o4 o5 o6 o7 o8 : Option PyData) (s : Drw) (hi : DrI s) : ∃ d s', d ∈ items ∧ DrI s' ∧ p2 (Row sc o2 o3 o4 o5 o6 o7 o8) s = .ok (.nx (Row sc o2 o3 (some d) o5 o6 o7 o8)) s' := by
  obtain ⟨d, s', h1, h2, h3⟩ := pick_eq s hi items (fun z => nomatch z) (by decide)
  refine ⟨d, s', h1, h2, ?_⟩
  have e : (aCons (sGet 1) (aCons (mLst (aCons (fun _ => pure (.int 0)) (aCons (fun _ => pure (.int 1)) (aCons (fun _ => pure (.int 10)) (aCons (fun _ => pure .none) (aCons (fun _ => pure (.str "A")) (aCons (mTup (aCons (fun _ => pure (.int 1)) (aCons (fun _ => pure .none) (fun _ => pure [])))) (aCons (mTup (aCons (mTup (aCons (fun _ => pure (.int 0)) (fun _ => pure []))) (aCons (fun _ => pure (.str "k")) (fun _ => pure [])))) (aCons (mLst (aCons (fun _ => pure (.int 3)) (fun _ => pure []))) (aCons (f2 powD (fun _ => pure (.int 10)) (fun _ => pure (.int 12))) (fun _ => pure []))))))))))) (fun _ => pure []))) (Row sc o2 o3 o4 o5 o6 o7 o8) s = .ok [drwD, .list items] s := by kernel_rfl
  exact asgF_ok (s' := s') (d := d) ((bok e).trans (by rw [pick_is]; exact h3)) rfl
theorem p3_0 (sc o2 o4 o5 o6 o7 o8 : Option PyData) (s : Drw) : p3 (Row sc o2 (some (.str "")) o4 o5 o6 o7 o8) s = .ok (.nx (Row sc o2 (some (.str "")) o4 o5 (some (.int 99)) (some (spc (errD "EndError" (.str "")))) o8)) s := by kernel_rfl
theorem p5_0 (sc o2 o4 o5 o6 o7 o8 : Option PyData) (s : Drw) : p5 (Row sc o2 (some (.str "")) o4 o5 o6 o7 o8) s = .ok (.nx (Row sc o2 (some (.str "")) o4 (some (spc (errD "EndError" (.str "")))) o6 o7 o8)) s := by kernel_rfl
theorem p6_0 (sc o2 o3 o4 o6 o7 o8 : Option PyData) (s : Drw) : p6 (Row sc o2 o3 o4 (some (spc (errD "EndError" (.str "")))) o6 o7 o8) s = .ok (.nx (Row sc o2 o3 o4 (some (spc (errD "EndError" (.str "")))) o6 o7 o8)) s := by kernel_rfl
theorem p3_1 (sc o2 o4 o5 o6 o7 o8 : Option PyData) (s : Drw) : p3 (Row sc o2 (some (.str "a")) o4 o5 o6 o7 o8) s = .ok (.nx (Row sc o2 (some (.str "a")) o4 o5 (some (.int 99)) (some (spc (errD "EndError" (.str "a")))) o8)) s := by kernel_rfl
theorem p5_1 (sc o2 o4 o5 o6 o7 o8 : Option PyData) (s : Drw) : p5 (Row sc o2 (some (.str "a")) o4 o5 o6 o7 o8) s = .ok (.nx (Row sc o2 (some (.str "a")) o4 (some (spc (errD "EndError" (.str "a")))) o6 o7 o8)) s := by kernel_rfl
theorem p6_1 (sc o2 o3 o4 o6 o7 o8 : Option PyData) (s : Drw) : p6 (Row sc o2 o3 o4 (some (spc (errD "EndError" (.str "a")))) o6 o7 o8) s = .ok (.nx (Row sc o2 o3 o4 (some (spc (errD "EndError" (.str "a")))) o6 o7 o8)) s := by kernel_rfl
theorem p3_2 (sc o2 o4 o5 o6 o7 o8 : Option PyData) (s : Drw) : p3 (Row sc o2 (some (.str "no name")) o4 o5 o6 o7 o8) s = .ok (.nx (Row sc o2 (some (.str "no name")) o4 o5 (some (.int 99)) (some (spc (errD "EndError" (.str "no name")))) o8)) s := by kernel_rfl
theorem p5_2 (sc o2 o4 o5 o6 o7 o8 : Option PyData) (s : Drw) : p5 (Row sc o2 (some (.str "no name")) o4 o5 o6 o7 o8) s = .ok (.nx (Row sc o2 (some (.str "no name")) o4 (some (spc (errD "EndError" (.str "no name")))) o6 o7 o8)) s := by kernel_rfl
theorem p6_2 (sc o2 o3 o4 o6 o7 o8 : Option PyData) (s : Drw) : p6 (Row sc o2 o3 o4 (some (spc (errD "EndError" (.str "no name")))) o6 o7 o8) s = .ok (.nx (Row sc o2 o3 o4 (some (spc (errD "EndError" (.str "no name")))) o6 o7 o8)) s := by kernel_rfl
theorem p3_3 (sc o2 o4 o5 o6 o7 o8 : Option PyData) (s : Drw) : p3 (Row sc o2 (some (.str "join(A; B; k; _l _r)")) o4 o5 o6 o7 o8) s = .ok (.nx (Row sc o2 (some (.str "join(A; B; k; _l _r)")) o4 o5 (some (.int 99)) (some (spc (errD "EndError" (.str "join(A; B; k; _l _r)")))) o8)) s := by kernel_rfl
theorem p5_3 (sc o2 o4 o5 o6 o7 o8 : Option PyData) (s : Drw) : p5 (Row sc o2 (some (.str "join(A; B; k; _l _r)")) o4 o5 o6 o7 o8) s = .ok (.nx (Row sc o2 (some (.str "join(A; B; k; _l _r)")) o4 (some (spc (errD "EndError" (.str "join(A; B; k; _l _r)")))) o6 o7 o8)) s := by kernel_rfl
theorem p6_3 (sc o2 o3 o4 o6 o7 o8 : Option PyData) (s : Drw) : p6 (Row sc o2 o3 o4 (some (spc (errD "EndError" (.str "join(A; B; k; _l _r)")))) o6 o7 o8) s = .ok (.nx (Row sc o2 o3 o4 (some (spc (errD "EndError" (.str "join(A; B; k; _l _r)")))) o6 o7 o8)) s := by kernel_rfl
theorem p4_0 (sc o2 o3 o5 o6 o7 o8 : Option PyData) (s : Drw) : p4 (Row sc o2 o3 (some (.int 0)) o5 o6 o7 o8) s = .ok (.nx (Row sc o2 o3 (some (.int 0)) o5 (some (.int 18)) (some (spc (errD "BadLine" (.int 0)))) (some (.int 0)))) s := by kernel_rfl
theorem p4_1 (sc o2 o3 o5 o6 o7 o8 : Option PyData) (s : Drw) : p4 (Row sc o2 o3 (some (.int 1)) o5 o6 o7 o8) s = .ok (.nx (Row sc o2 o3 (some (.int 1)) o5 (some (.int 18)) (some (spc (errD "BadLine" (.int 1)))) (some (.int 1)))) s := by kernel_rfl
theorem p4_2 (sc o2 o3 o5 o6 o7 o8 : Option PyData) (s : Drw) : p4 (Row sc o2 o3 (some (.int 10)) o5 o6 o7 o8) s = .ok (.nx (Row sc o2 o3 (some (.int 10)) o5 (some (.int 18)) (some (spc (errD "BadLine" (.int 10)))) (some (.int 10)))) s := by kernel_rfl
theorem p4_3 (sc o2 o3 o5 o6 o7 o8 : Option PyData) (s : Drw) : p4 (Row sc o2 o3 (some (.none)) o5 o6 o7 o8) s = .ok (.nx (Row sc o2 o3 (some (.none)) o5 (some (.int 18)) (some (spc (errD "BadLine" (.none)))) (some (.none)))) s := by kernel_rfl
theorem p4_4 (sc o2 o3 o5 o6 o7 o8 : Option PyData) (s : Drw) : p4 (Row sc o2 o3 (some (.str "A")) o5 o6 o7 o8) s = .ok (.nx (Row sc o2 o3 (some (.str "A")) o5 (some (.int 18)) (some (spc (errD "BadLine" (.str "A")))) (some (.str "A")))) s := by kernel_rfl
theorem p4_5 (sc o2 o3 o5 o6 o7 o8 : Option PyData) (s : Drw) : p4 (Row sc o2 o3 (some (.tuple [.int 1, .none])) o5 o6 o7 o8) s = .ok (.nx (Row sc o2 o3 (some (.tuple [.int 1, .none])) o5 (some (.int 18)) (some (spc (errD "BadLine" (.tuple [.int 1, .none])))) (some (.tuple [.int 1, .none])))) s := by kernel_rfl
theorem p4_6 (sc o2 o3 o5 o6 o7 o8 : Option PyData) (s : Drw) : p4 (Row sc o2 o3 (some (.tuple [.tuple [.int 0], .str "k"])) o5 o6 o7 o8) s = .ok (.nx (Row sc o2 o3 (some (.tuple [.tuple [.int 0], .str "k"])) o5 (some (.int 18)) (some (spc (errD "BadLine" (.tuple [.tuple [.int 0], .str "k"])))) (some (.tuple [.tuple [.int 0], .str "k"])))) s := by kernel_rfl
theorem p4_7 (sc o2 o3 o5 o6 o7 o8 : Option PyData) (s : Drw) : p4 (Row sc o2 o3 (some (.list [.int 3])) o5 o6 o7 o8) s = .ok (.nx (Row sc o2 o3 (some (.list [.int 3])) o5 (some (.int 18)) (some (spc (errD "BadLine" (.list [.int 3])))) (some (.list [.int 3])))) s := by kernel_rfl
theorem p4_8 (sc o2 o3 o5 o6 o7 o8 : Option PyData) (s : Drw) : p4 (Row sc o2 o3 (some (.int 1000000000000)) o5 o6 o7 o8) s = .ok (.nx (Row sc o2 o3 (some (.int 1000000000000)) o5 (some (.int 18)) (some (spc (errD "BadLine" (.int 1000000000000)))) (some (.int 1000000000000)))) s := by kernel_rfl
theorem p356 (d : PyData) (hd : d ∈ pages) : ∃ e, (∀ (sc o2 o4 o5 o6 o7 o8 : Option PyData) (s : Drw), ∃ o6' o7', p3 (Row sc o2 (some d) o4 o5 o6 o7 o8) s = .ok (.nx (Row sc o2 (some d) o4 o5 o6' o7' o8)) s) ∧
    (∀ (sc o2 o4 o5 o6 o7 o8 : Option PyData) (s : Drw), p5 (Row sc o2 (some d) o4 o5 o6 o7 o8) s = .ok (.nx (Row sc o2 (some d) o4 (some e) o6 o7 o8)) s) ∧
    (∀ (sc o2 o3 o4 o6 o7 o8 : Option PyData) (s : Drw), p6 (Row sc o2 o3 o4 (some e) o6 o7 o8) s = .ok (.nx (Row sc o2 o3 o4 (some e) o6 o7 o8)) s) := by
  unfold pages at hd
  simp only [List.mem_cons, List.not_mem_nil, or_false] at hd
  rcases hd with rfl | rfl | rfl | rfl
  · exact ⟨_, fun _ _ _ _ _ _ _ _ => ⟨_, _, p3_0 _ _ _ _ _ _ _ _⟩, fun _ _ _ _ _ _ _ _ => p5_0 _ _ _ _ _ _ _ _, fun _ _ _ _ _ _ _ _ => p6_0 _ _ _ _ _ _ _ _⟩
  · exact ⟨_, fun _ _ _ _ _ _ _ _ => ⟨_, _, p3_1 _ _ _ _ _ _ _ _⟩, fun _ _ _ _ _ _ _ _ => p5_1 _ _ _ _ _ _ _ _, fun _ _ _ _ _ _ _ _ => p6_1 _ _ _ _ _ _ _ _⟩
  · exact ⟨_, fun _ _ _ _ _ _ _ _ => ⟨_, _, p3_2 _ _ _ _ _ _ _ _⟩, fun _ _ _ _ _ _ _ _ => p5_2 _ _ _ _ _ _ _ _, fun _ _ _ _ _ _ _ _ => p6_2 _ _ _ _ _ _ _ _⟩
  · exact ⟨_, fun _ _ _ _ _ _ _ _ => ⟨_, _, p3_3 _ _ _ _ _ _ _ _⟩, fun _ _ _ _ _ _ _ _ => p5_3 _ _ _ _ _ _ _ _, fun _ _ _ _ _ _ _ _ => p6_3 _ _ _ _ _ _ _ _⟩
theorem p4_ok (d : PyData) (hd : d ∈ items) (sc o2 o3 o5 o6 o7 o8 : Option PyData) (s : Drw) : ∃ o6' o7' o8', p4 (Row sc o2 o3 (some d) o5 o6 o7 o8) s = .ok (.nx (Row sc o2 o3 (some d) o5 o6' o7' o8')) s := by
  unfold items at hd
  simp only [List.mem_cons, List.not_mem_nil, or_false] at hd
  rcases hd with rfl | rfl | rfl | rfl | rfl | rfl | rfl | rfl | rfl
  · exact ⟨_, _, _, p4_0 _ _ _ _ _ _ _ _⟩
  · exact ⟨_, _, _, p4_1 _ _ _ _ _ _ _ _⟩
  · exact ⟨_, _, _, p4_2 _ _ _ _ _ _ _ _⟩
  · exact ⟨_, _, _, p4_3 _ _ _ _ _ _ _ _⟩
  · exact ⟨_, _, _, p4_4 _ _ _ _ _ _ _ _⟩
  · exact ⟨_, _, _, p4_5 _ _ _ _ _ _ _ _⟩
  · exact ⟨_, _, _, p4_6 _ _ _ _ _ _ _ _⟩
  · exact ⟨_, _, _, p4_7 _ _ _ _ _ _ _ _⟩
  · exact ⟨_, _, _, p4_8 _ _ _ _ _ _ _ _⟩
theorem turn_ok (sc o2 o3 o4 o5 o6 o7 o8 : Option PyData) (s : Drw) (hi : DrI s) : ∃ o3' o4' o5' o6' o7' o8' s', DrI s' ∧ gB (Row sc o2 o3 o4 o5 o6 o7 o8) s = .ok (.nx (Row sc o2 o3' o4' o5' o6' o7' o8')) s' := by
  obtain ⟨d, s1, hd, h1, e1⟩ := p1_ok sc o2 o3 o4 o5 o6 o7 o8 s hi
  obtain ⟨f, s2, hf, h2, e2⟩ := p2_ok sc o2 (some d) o4 o5 o6 o7 o8 s1 h1
  obtain ⟨e, q3, q5, q6⟩ := p356 d hd
  obtain ⟨u6, u7, e3⟩ := q3 sc o2 (some f) o5 o6 o7 o8 s2
  obtain ⟨v6, v7, v8, e4⟩ := p4_ok f hf sc o2 (some d) o5 u6 u7 o8 s2
  refine ⟨some d, some f, some e, v6, v7, v8, s2, h2, ?_⟩
  unfold gB
  rw [seq_nx e1, seq_nx e2, seq_nx e3, seq_nx e4, seq_nx (q5 _ _ _ _ _ _ _ _), q6]
theorem math : LawMath := by
  intro ns hn
  have hz : ns.length ≤ sizeLine := Nat.le_trans hn (by rw [sizeLine_eq]; decide)
  have hb := begin_eq ns hz ⟨[], 0, [], 0⟩
  have hi : DrI ⟨greats ns, 0, ns.map iabs, 0⟩ := ⟨fun g hg => by
      unfold greats at hg
      obtain ⟨i, h1, rfl⟩ := List.mem_map.mp hg
      have h2 := (List.mem_filter.mp h1).2
      have h3 := of_decide_eq_true h2
      show 0 ≤ iabs i - 10 ^ 18
      omega, fun c hc => by
      obtain ⟨i, _, rfl⟩ := List.mem_map.mp hc
      exact iabs_nn i, by simpa using hn, Int.le_refl 0⟩
  let sc : Option PyData := some (.list (ns.map PyData.int))
  have lp : ∀ ds : List PyData, ∃ ρ' s', loopF (gSetD 2) gB ds (Row sc none none none none none none none) ⟨greats ns, 0, ns.map iabs, 0⟩ = .ok (.nx ρ') s' ∧ _ := fun ds =>
    loop_inv (asg := gSetD 2) (body := gB) (fun ρ s => DrI s ∧ ∃ o2 o3 o4 o5 o6 o7 o8, ρ = Row sc o2 o3 o4 o5 o6 o7 o8) ds (fun d _ ρ s ⟨h, o2, o3, o4, o5, o6, o7, o8, e⟩ => by
      subst e
      obtain ⟨a3, a4, a5, a6, a7, a8, s', h', e'⟩ := turn_ok sc (some d) o3 o4 o5 o6 o7 o8 s h
      exact ⟨_, _, s', rfl, e', h', _, _, _, _, _, _, _, rfl⟩) _ _ ⟨hi, _, _, _, _, _, _, _, rfl⟩
  have hit : ∃ ds, itL (Row sc none none none none none none none) ⟨greats ns, 0, ns.map iabs, 0⟩ = .ok ds ⟨greats ns, 0, ns.map iabs, 0⟩ := by
    have el : lenD [.list (ns.map PyData.int)] = pure (.int ns.length) := by
      show (pure (.int ((ns.map PyData.int).length : Int)) : DM PyData) = _
      rw [List.length_map]
    have e1 : f2 addD (fun _ => pure (.int 1)) (fCall (aCons (fCall (aCons (sGet 0) (fun _ => pure [])) lenD) (aCons (fun _ => pure (.int 3)) (fun _ => pure []))) minD) (Row sc none none none none none none none) ⟨greats ns, 0, ns.map iabs, 0⟩ = .ok (.int (1 + (if (3 : Int) < (ns.length : Int) then (3 : Int) else (ns.length : Int)))) ⟨greats ns, 0, ns.map iabs, 0⟩ := by
      simp [f2, fCall, aCons, sc, el, minD]
    exact ⟨_, rng1_ok e1 ⟨by split <;> omega, by split <;> omega⟩⟩
  obtain ⟨ds, hds⟩ := hit
  obtain ⟨ρ', s', e, _⟩ := lp ds
  refine ⟨greats ns, ns.map iabs, ⟨[], 0, [], 0⟩, s', hb, ?_⟩
  rw [law_is]
  have e1 : forF itL (gSetD 2) gB (Row sc none none none none none none none) ⟨greats ns, 0, ns.map iabs, 0⟩ = .ok (.nx ρ') s' := by
    unfold forF
    rw [bA, hds]
    exact e
  refine (seq_nx e1).trans ?_
  rfl
end K01

set_option Elab.async false
set_option autoImplicit false
set_option linter.all false
set_option maxRecDepth 100000
set_option maxHeartbeats 2000000
/-! the head's facts about errors -/
namespace HE
open PySem PySem.Spec PyProof.Rows L2 DL
open PySem.W (Frag findIn typeIn keepIn subIn kitOne nsIn mroIn hasDictIn specialIn takesIn codeIn ks_superIn)
structure EcD where
  nm : Str
  fld : Option Str
  st : Stmt
def clsInit : Stmt → Stmt
  | .ClassDef (body := b) .. => b.headD (.Pass ⟨0, 0, 0, 0⟩)
  | s => s
def clsB (K : Frag) (C : Addr) : Bool := match K.lookup C with
  | some ⟨.type t, _, .cls cd, sl⟩ => decide (t = "type") && ((match cd.mro with
    | .ref c :: bm => decide (c = C) && HandSPX.refsVE bm
    | _ => false) && (cd.hasDict && (!cd.hasDel && (match sl.toList with
    | [_, _, _, _, some (.builtin n), _] => decide (n = "ValueError.__new__")
    | _ => false))))
  | _ => false
theorem ab {a b : Bool} (h : (a && b) = true) : a = true ∧ b = true := Bool.and_eq_true_iff.mp h
theorem clsB_ok {K : Frag} {C : Addr} (h : clsB K C = true) : ∃ nm q N bs bm sn sub ab col dd k0 k1 k2 k3 k5, K.lookup C = some (excClassObj nm q C N bs bm true sn sub ab col dd k0 k1 k2 k3 k5 "ValueError.__new__") ∧ HandSPX.refsVE bm = true := by
  unfold clsB at h
  split at h
  · rename_i t dd cd sl e
    obtain ⟨h1, h⟩ := ab h
    obtain ⟨h2, h⟩ := ab h
    obtain ⟨h3, h⟩ := ab h
    obtain ⟨h4, h5⟩ := ab h
    split at h2
    · rename_i c bm em
      obtain ⟨h6, h7⟩ := ab h2
      split at h5
      · rename_i k0 k1 k2 k3 n k5 es
        obtain ⟨n1, n2, n3, n4, n5, n6, n7, n8, n9, n10, n11⟩ := cd
        obtain ⟨sl⟩ := sl
        dsimp only at em h3 h4 es
        subst em es
        have a1 := of_decide_eq_true h1
        have a2 := of_decide_eq_true h6
        have a3 := of_decide_eq_true h5
        have a4 : n11 = false := by simpa using h4
        subst a1 a2 a3 a4 h3
        exact ⟨n1, n5, n4, n2, bm, n7, n8, n9, n10, dd, k0, k1, k2, k3, k5, e, h7⟩
      · cases h5
    · cases h2
  · cases h
open He (eqO eqO_ok ga ma)
def excB (K : Frag) (C : Addr) : Bool :=
  eqO (findIn K (.ref C) "__getattribute__") (some (some (.builtin "BaseException.__getattribute__"))) && (eqO (findIn K (.ref C) "__getattr__") (some none) && (decide (subIn K (.ref C) (.type "BaseException") = some true) && (hasDictIn K C &&
  (eqO (findIn K (.ref C) "__class__") (some (some (.builtin "object.__class__"))) && (eqO (specialIn K (.builtin "object.__class__") "__get__") (some (some (.builtin "getset_descriptor.__get__"))) && (decide (takesIn K (.builtin "object.__class__") = some true) && decide (mroIn K C (.type "object") = some true)))))))
theorem excB_ok {K : Frag} {C : Addr} (h : excB K C = true) : L2.ExcC K C := by
  unfold excB at h
  obtain ⟨h1, h⟩ := ab h
  obtain ⟨h2, h⟩ := ab h
  obtain ⟨h3, h⟩ := ab h
  obtain ⟨h4, h⟩ := ab h
  obtain ⟨h5, h⟩ := ab h
  obtain ⟨h6, h⟩ := ab h
  obtain ⟨h7, h8⟩ := ab h
  exact ⟨eqO_ok h1, eqO_ok h2, of_decide_eq_true h3, h4, eqO_ok h5, eqO_ok h6, of_decide_eq_true h7, of_decide_eq_true h8⟩
def fileB (K : Frag) (cd : Value) (file : Str) : Bool := match cd with
  | .ref a => (match K.lookup a with
    | some ⟨_, _, .fields vs, _⟩ => (match (vs[2]? : Option Value) with
      | some (Value.str f _) => file == f
      | _ => false)
    | _ => false)
  | _ => false
def cellB (K : Frag) (cc C : Addr) : Bool := match K.lookup cc with
  | some ⟨_, _, .cell (some (.ref D)), _⟩ => decide (D = C)
  | _ => false
def initB (K : Frag) (C : Addr) (file : Str) : Bool := match K.lookup (ma K C "__init__") with
  | some ⟨_, _, .func fd, _⟩ => decide (fd.defaults = .none) && (decide (fd.kwdefaults = .none) && (codeIn K fd.code fd.qualname && (fileB K fd.code file && (match fd.closure with
    | [(n, cc)] => decide (n = "__class__") && cellB K cc C
    | _ => false))))
  | _ => false
abbrev FnE : Type := Option (Str × Arguments × FuncBody × Scope × Addr × Addr)
def fnE (K : Frag) (C : Addr) : FnE := match K.lookup (ma K C "__init__") with
  | some ⟨_, _, .func fd, _⟩ => some (fd.name, fd.params, fd.body, fd.scope, fd.globals, fd.builtins)
  | _ => none
def EcD.val (e : EcD) : FnE := some ("__init__", defArgs e.st, .stmts (defBody e.st), defScope e.st, mainGlobals, builtinsNs)
def fldB (K : Frag) (C : Addr) (f : Str) (file : Str) : Bool :=
  eqO (findIn K (.ref C) "__setattr__") (some (some (.builtin "object.__setattr__"))) && (eqO (findIn K (.ref C) f) (some none) && (eqO (findIn K (.ref C) "__init__") (some (some (.ref (ma K C "__init__")))) && (decide (typeIn K (.ref (ma K C "__init__")) = some (.type "function")) &&
  (eqO (ks_superIn K C C "__init__") (some (some (.builtin "ValueError.__init__"))) && (decide (subIn K (.ref C) (.type "ValueError") = some true) && (decide (mroIn K C (.ref C) = some true) && (eqO (nsIn K PySem.cStatics "thirdparty.any") (some none) && (eqO (nsIn K mainGlobals "super") (some none) && initB K C file))))))))
def exB (file : Str) (K : Frag) (e : EcD) : Bool :=
  (He.Fa.glo e.nm).ok K && (keepIn K (.ref (ga K e.nm)) && (clsB K (ga K e.nm) && (excB K (ga K e.nm) && (eqO (findIn K (.ref (ga K e.nm)) "__str__") (some (some (.builtin "BaseException.__str__"))) && (match e.fld with
  | none => eqO (findIn K (.ref (ga K e.nm)) "__init__") (some (some (.builtin "ValueError.__init__")))
  | some f => fldB K (ga K e.nm) f file)))))
/-- what the text of an __init__ says -/
structure InitTx (P : Program) (e : EcD) (fld : Str) : Prop where
  ex : ∃ (p1 p2 : Pos) (qs : Nat → Pos), defArgs e.st = DE.eA fld p1 p2 ∧ defBody e.st = DE.eB fld qs ∧ defScope e.st = DE.eS fld ∧
    (∀ (q : Str) (doc pm : Value) (an : Option Addr) (cda : Addr) (ct : Value) (cc : Addr) (a b : Value), bindArgs (PySem.W.ksFn "__init__" q (DE.eA fld p1 p2) (DE.eB fld qs) (DE.eS fld) .none .none doc pm an (.ref cda) ct cc) ⟨[a, b], []⟩ = pure ([(("self" : Str), a), (fld, b)] : List (Str × Value))) ∧
    (∀ (q : Str) (doc pm : Value) (an : Option Addr) (cda : Addr) (ct : Value) (cc : Addr) (a b : Value), bindArgs (PySem.W.ksFn "__init__" q (DE.eA fld p1 p2) (DE.eB fld qs) (DE.eS fld) .none .none doc pm an (.ref cda) ct cc) ⟨[a], [(fld, b)]⟩ = pure ([(("self" : Str), a), (fld, b)] : List (Str × Value))) ∧
    (∀ (q : Str) (fI cda cc L : Addr), eval (.Call (.Attribute (.Call (.Name "super" (qs 0)) [] [] (qs 1)) "__init__" (qs 2)) [.Name fld (qs 3)] [] (qs 4)) (PySem.W.ksEnv q (DE.eS fld) L fI (.ref cda) cc) = (do
      let ov ← attributeBase (.Call (.Name "super" (qs 0)) [] [] (qs 1)) "__init__" (PySem.W.ksEnv q (DE.eS fld) L fI (.ref cda) cc) (eval (.Call (.Name "super" (qs 0)) [] [] (qs 1)) (PySem.W.ksEnv q (DE.eS fld) L fI (.ref cda) cc))
      standAt (qs 2).atName
      let (f, first) ← holding [ov] (getMethod ov "__init__" (do return (← importBound (.Call (.Name "super" (qs 0)) [] [] (qs 1)) (PySem.W.ksEnv q (DE.eS fld) L fI (.ref cda) cc)).getD true))
      callWith (qs 4) f first (backTo (qs 4) (starEach [.Name fld (qs 3)] (PySem.W.ksEnv q (DE.eS fld) L fI (.ref cda) cc))) []))
  ptop : (P.main.scope.names.lookup ("super" : Str)).isSome = false
  nf : (("self" : Str) == fld) = false
  nf2 : (fld == ("self" : Str)) = false
  ns1 : (("super" : Str) == fld) = false
  nc1 : (("__class__" : Str) == fld) = false
  ndb : (fld == ("__debug__" : Str)) = false
theorem txt_ok {P : Program} {K : Frag} {e : EcD} {fld : Str} (T : InitTx P e fld) (hc : clsB K (ga K e.nm) = true) (hf : fldB K (ga K e.nm) fld P.main.file = true) (hv : fnE K (ga K e.nm) = e.val) : ∃ fI cc, DE.ErrTxt P K fld (ga K e.nm) fI cc := by
  unfold fldB at hf
  obtain ⟨h1, g1⟩ := ab hf
  obtain ⟨h2, g2⟩ := ab g1
  obtain ⟨h3, g3⟩ := ab g2
  obtain ⟨h4, g4⟩ := ab g3
  obtain ⟨h5, g5⟩ := ab g4
  obtain ⟨h6, g6⟩ := ab g5
  obtain ⟨h7, g7⟩ := ab g6
  obtain ⟨h8, g8⟩ := ab g7
  obtain ⟨h9, hi⟩ := ab g8
  clear g1 g2 g3 g4 g5 g6 g7 g8 hf
  obtain ⟨p1, p2, qs, t1, t2, t3, t4, t5, t6⟩ := T.ex
  unfold fnE at hv
  unfold initB at hi
  split at hv
  · rename_i oc od fd osl el
    rw [el] at hi
    obtain ⟨i1, j1⟩ := ab (show (decide (fd.defaults = .none) && (decide (fd.kwdefaults = .none) && (codeIn K fd.code fd.qualname && (fileB K fd.code P.main.file && (match fd.closure with
    | [(n, cc)] => decide (n = "__class__") && cellB K cc (ga K e.nm)
    | _ => false))))) = true from hi)
    obtain ⟨i2, j2⟩ := ab j1
    obtain ⟨i3, j3⟩ := ab j2
    obtain ⟨i4, j4⟩ := ab j3
    clear j1 j2 j3 hi
    split at j4
    · rename_i n cc ecl
      obtain ⟨i5, i6⟩ := ab j4
      obtain ⟨n1, n2, n3, n4, n5, n6, n7, n8, n9, n10, n11, n12, n13, n14, n15⟩ := fd
      have hv' : (some (n1, n3, n4, n5, n6, n15) : FnE) = some (("__init__" : Str), defArgs e.st, FuncBody.stmts (defBody e.st), defScope e.st, mainGlobals, builtinsNs) := hv
      simp only [Option.some.injEq, Prod.mk.injEq] at hv'
      obtain ⟨v1, v2, v3, v4, v5, v6⟩ := hv'
      dsimp only at ecl i1 i2 i3 i4
      have w1 := of_decide_eq_true i1
      have w2 := of_decide_eq_true i2
      have w5 := of_decide_eq_true i5
      subst v1 v2 v3 v4 v5 v6 ecl w1 w2 w5
      unfold fileB at i4
      split at i4
      · rename_i cda
        split at i4
        · rename_i ccl cdd vs ccs elc
          split at i4
          · rename_i file tf ef
            unfold cellB at i6
            split at i6
            · rename_i cl cld D csl ecc
              have w6 := of_decide_eq_true i6
              subst w6
              refine ⟨ma K (ga K e.nm) "__init__", cc, ⟨clsB_ok hc, eqO_ok h1, eqO_ok h2, eqO_ok h3, of_decide_eq_true h4, eqO_ok h5, of_decide_eq_true h6, of_decide_eq_true h7, ⟨cl, cld, csl, ecc⟩, eqO_ok h8, eqO_ok h9,
                ⟨n2, oc, od, .none, .none, n10, n11, n12, cda, n14, osl, p1, p2, qs, ?_, i3, ⟨ccl, cdd, vs, ccs, file, tf, elc, ef, i4⟩, t4 _ _ _ _ _ _ _, t5 _ _ _ _ _ _ _, fun L => t6 _ _ _ _ _⟩, T.ptop, T.nf, T.nf2, T.ns1, T.nc1, T.ndb⟩⟩
              rw [el, t1, t2, t3]
            · cases i6
          · cases i4
        · cases i4
      · cases i4
    · cases j4
  · cases hv
end HE

set_option Elab.async false
set_option autoImplicit false
set_option linter.all false
set_option maxRecDepth 100000
set_option maxHeartbeats 2000000
namespace HE
open PySem PySem.Spec PyProof.Rows L2 DL
open PySem.W (Frag findIn typeIn keepIn subIn kitOne nsIn mroIn hasDictIn specialIn takesIn codeIn ks_superIn)
open He (eqO eqO_ok ga ma)
/-- the places in such an __init__ -/
def qsOf : List Stmt → Nat → Pos
  | [.Expr (.Call (.Attribute (.Call (.Name _ q0) _ _ q1) _ q2) [.Name _ q3] _ q4) q5, .Assign [.Attribute (.Name _ q6) _ q7] (.Name _ q8) q9], n => (match n with
    | 0 => q0
    | 1 => q1
    | 2 => q2
    | 3 => q3
    | 4 => q4
    | 5 => q5
    | 6 => q6
    | 7 => q7
    | 8 => q8
    | _ => q9)
  | _, _ => ⟨0, 0, 0, 0⟩
/-- asked by isinstance: an own class, or a built-in one -/
structure KQ where
  own : Bool
  nm : Str
  ty : String
  hit : Str → Bool
def KQ.tgt (K : Frag) (q : KQ) : Value := if q.own = true then .ref (ga K q.nm) else .type q.ty
def kqB (K : Frag) (ecs : List EcD) (q : KQ) : Bool := (ecs.all fun e => decide (kitOne K (.ref (ga K e.nm)) (q.tgt K) = some (q.hit e.nm))) && decide (kitOne K (.type "NoneType") (q.tgt K) = some false)
def allB (file : Str) (ecs : List EcD) (ks : List KQ) (K : Frag) : Bool := (ecs.all fun e => exB file K e && !(e.nm == ("__debug__" : Str))) && ks.all fun q => kqB K ecs q
abbrev AlE : Type := He.AlD × Bool × List FnE
def inits (ecs : List EcD) : List EcD := ecs.filter fun e => e.fld.isSome
def obsE (fa : List He.Fa) (fn : List He.DefD) (file : Str) (ecs : List EcD) (ks : List KQ) (K : Frag) : AlE := (He.obsD fa fn K, allB file ecs ks K, (inits ecs).map fun e => fnE K (ga K e.nm))
def valE (fn : List He.DefD) (ecs : List EcD) : AlE := (He.valD fn, true, (inits ecs).map EcD.val)
def obsEG (n : Nat) (fa : List He.Fa) (fn : List He.DefD) (file : Str) (ecs : List EcD) (ks : List KQ) (g : Addr → Option Obj) : AlE := obsE fa fn file ecs ks (He.frG g (PySem.cStatics :: He.asD g n))
def SaysE (fa : List He.Fa) (fn : List He.DefD) (file : Str) (ecs : List EcD) (ks : List KQ) (K : Frag) : Prop := obsE fa fn file ecs ks K = valE fn ecs
def hookE (n : Nat) (fa : List He.Fa) (fn : List He.DefD) (file : Str) (ecs : List EcD) (ks : List KQ) : PySem.W.Hook where
  α := AlE
  obs := fun s => obsEG n fa fn file ecs ks s.heap.get?
  val := fun _ => valE fn ecs
  says := fun _ h => ∃ K : Frag, K.In h ∧ SaysE fa fn file ecs ks K
  of := fun _ _ e => ⟨_, He.frG_in, e⟩
  keeps := fun _ _ _ ⟨K, hK, c⟩ k => ⟨K, PySem.W.Frag.In.keeps hK k, c⟩
theorem obsEG_eq {n : Nat} {fa : List He.Fa} {fn : List He.DefD} {file : Str} {ecs : List EcD} {ks : List KQ} {g : Addr → Option Obj} {s : Shared} (h : ∀ a, g a = s.heap.get? a) : obsEG n fa fn file ecs ks g = (hookE n fa fn file ecs ks).obs s := by
  have e : g = s.heap.get? := funext h
  rw [e] <;> rfl
section
variable {fa : List He.Fa} {fn : List He.DefD} {ecs : List EcD} {ks : List KQ} {K : Frag} {P : Program} {mg : Str → Option Value} {h : Heap} {e : EcD}
theorem SaysE.d {file : Str} (c : SaysE fa fn file ecs ks K) : He.SaysD fa fn K := congrArg (fun z : AlE => z.1) c
theorem SaysE.all {file : Str} (c : SaysE fa fn file ecs ks K) : allB file ecs ks K = true := congrArg (fun z : AlE => z.2.1) c
theorem SaysE.at {file : Str} (c : SaysE fa fn file ecs ks K) (he : e ∈ ecs) : exB file K e = true ∧ (e.nm == ("__debug__" : Str)) = false := by
  have h1 := (ab c.all).1
  have h2 := List.all_eq_true.mp h1 e he
  obtain ⟨h3, h4⟩ := ab h2
  exact ⟨h3, by simpa using h4⟩
theorem SaysE.kq {file : Str} (c : SaysE fa fn file ecs ks K) {q : KQ} (hq : q ∈ ks) : (∀ e, e ∈ ecs → kitOne K (.ref (ga K e.nm)) (q.tgt K) = some (q.hit e.nm)) ∧ kitOne K (.type "NoneType") (q.tgt K) = some false := by
  have h1 := List.all_eq_true.mp (ab c.all).2 q hq
  obtain ⟨h2, h3⟩ := ab h1
  exact ⟨fun e he => of_decide_eq_true (List.all_eq_true.mp h2 e he), of_decide_eq_true h3⟩
theorem SaysE.fne {file : Str} (c : SaysE fa fn file ecs ks K) (he : e ∈ ecs) (hf : e.fld.isSome = true) : fnE K (ga K e.nm) = e.val := by
  have h1 : (inits ecs).map (fun e => fnE K (ga K e.nm)) = (inits ecs).map EcD.val := congrArg (fun z : AlE => z.2.2) c
  have hm : e ∈ inits ecs := List.mem_filter.mpr ⟨he, hf⟩
  exact List.map_inj_left.mp h1 e hm
def esK (K : Frag) (ecs : List EcD) : List ErrC := ecs.map fun e => ⟨e.nm, ga K e.nm, e.fld⟩
theorem SaysE.tx {file : Str} (c : SaysE fa fn file ecs ks K) (X : K.In h) (G : h.Ns mainGlobals mg) (he : e ∈ ecs) (f : Option Str) : ErrTx K mg ⟨e.nm, ga K e.nm, f⟩ := by
  obtain ⟨h1, h2⟩ := c.at he
  unfold exB at h1
  obtain ⟨q1, h3⟩ := ab h1
  obtain ⟨q2, h4⟩ := ab h3
  exact ⟨He.glo_ok X G q1, q2, h2⟩
theorem SaysE.glo {file : Str} (c : SaysE fa fn file ecs ks K) (X : K.In h) (G : h.Ns mainGlobals mg) (he : e ∈ ecs) : mg e.nm = some (.ref (ga K e.nm)) := (c.tx X G he none).g
theorem SaysE.rest {file : Str} (c : SaysE fa fn file ecs ks K) (he : e ∈ ecs) : clsB K (ga K e.nm) = true ∧ L2.ExcC K (ga K e.nm) ∧ findIn K (.ref (ga K e.nm)) "__str__" = some (some (.builtin "BaseException.__str__")) ∧ (match e.fld with
  | none => eqO (findIn K (.ref (ga K e.nm)) "__init__") (some (some (.builtin "ValueError.__init__")))
  | some f => fldB K (ga K e.nm) f file) = true := by
  obtain ⟨h1, _⟩ := c.at he
  unfold exB at h1
  obtain ⟨q1, h3⟩ := ab h1
  obtain ⟨q2, h4⟩ := ab h3
  obtain ⟨q3, h5⟩ := ab h4
  obtain ⟨q4, h6⟩ := ab h5
  obtain ⟨q5, h7⟩ := ab h6
  exact ⟨q3, excB_ok q4, eqO_ok q5, h7⟩
theorem SaysE.erF {f : Str} {st : Stmt} {nm : Str} (c : SaysE fa fn P.main.file ecs ks K) (X : K.In h) (G : h.Ns mainGlobals mg) (he : (⟨nm, some f, st⟩ : EcD) ∈ ecs) (T : InitTx P ⟨nm, some f, st⟩ f) : ErF P K mg (esK K ecs) ⟨nm, ga K nm, some f⟩ f := by
  obtain ⟨h1, _, _, h4⟩ := c.rest he
  exact ⟨List.mem_map.mpr ⟨_, he, rfl⟩, rfl, c.tx X G he (some f), txt_ok T h1 h4 (c.fne he rfl)⟩
theorem SaysE.erB {file : Str} {st : Stmt} {nm : Str} (c : SaysE fa fn file ecs ks K) (X : K.In h) (G : h.Ns mainGlobals mg) (he : (⟨nm, none, st⟩ : EcD) ∈ ecs) : ErB K mg (esK K ecs) ⟨nm, ga K nm, none⟩ := by
  obtain ⟨h1, _, _, h4⟩ := c.rest he
  exact ⟨List.mem_map.mpr ⟨_, he, rfl⟩, rfl, c.tx X G he none, ⟨clsB_ok h1, eqO_ok h4⟩⟩
theorem SaysE.exc {file : Str} (c : SaysE fa fn file ecs ks K) : ∀ x, x ∈ esK K ecs → L2.ExcC K x.C := fun x hx => by
  obtain ⟨e, he, rfl⟩ := List.mem_map.mp hx
  exact (c.rest he).2.1
theorem SaysE.str {file : Str} (c : SaysE fa fn file ecs ks K) : ∀ x, x ∈ esK K ecs → findIn K (.ref x.C) "__str__" = some (some (.builtin "BaseException.__str__")) := fun x hx => by
  obtain ⟨e, he, rfl⟩ := List.mem_map.mp hx
  exact (c.rest he).2.2.1
theorem SaysE.noat {file : Str} (c : SaysE fa fn file ecs ks K) (f : Str) : ∀ x, x ∈ esK K ecs → x.fld = some f → findIn K (.ref x.C) f = some none := fun x hx hf => by
  obtain ⟨e, he, rfl⟩ := List.mem_map.mp hx
  have h4 := (c.rest he).2.2.2
  have hf' : e.fld = some f := hf
  rw [hf'] at h4
  have h5 : fldB K (ga K e.nm) f file = true := h4
  unfold fldB at h5
  obtain ⟨q1, h6⟩ := ab h5
  obtain ⟨q2, h7⟩ := ab h6
  exact eqO_ok q2
theorem SaysE.flds {file : Str} (c : SaysE fa fn file ecs ks K) (t : Str → Option Str) (ht : ∀ e, e ∈ ecs → t e.nm = e.fld) : ∀ x, x ∈ esK K ecs → t x.nm = x.fld := fun x hx => by
  obtain ⟨e, he, rfl⟩ := List.mem_map.mp hx
  exact ht e he
theorem SaysE.isO {file : Str} (c : SaysE fa fn file ecs ks K) {nm : Str} {ty : String} {hit : Str → Bool} (hq : (⟨true, nm, ty, hit⟩ : KQ) ∈ ks) : ∀ x, x ∈ esK K ecs → kitOne K (.ref x.C) (.ref (ga K nm)) = some (hit x.nm) := fun x hx => by
  obtain ⟨e, he, rfl⟩ := List.mem_map.mp hx
  exact (c.kq hq).1 e he
theorem SaysE.isT {file : Str} (c : SaysE fa fn file ecs ks K) {nm : Str} {ty : String} {hit : Str → Bool} (hq : (⟨false, nm, ty, hit⟩ : KQ) ∈ ks) : ∀ x, x ∈ esK K ecs → kitOne K (.ref x.C) (.type ty) = some (hit x.nm) := fun x hx => by
  obtain ⟨e, he, rfl⟩ := List.mem_map.mp hx
  exact (c.kq hq).1 e he
theorem SaysE.nonO {file : Str} (c : SaysE fa fn file ecs ks K) {nm : Str} {ty : String} {hit : Str → Bool} (hq : (⟨true, nm, ty, hit⟩ : KQ) ∈ ks) : kitOne K (.type "NoneType") (.ref (ga K nm)) = some false := (c.kq hq).2
theorem SaysE.nonT {file : Str} (c : SaysE fa fn file ecs ks K) {nm : Str} {ty : String} {hit : Str → Bool} (hq : (⟨false, nm, ty, hit⟩ : KQ) ∈ ks) : kitOne K (.type "NoneType") (.type ty) = some false := (c.kq hq).2
end
end HE

set_option Elab.async false
set_option autoImplicit false
set_option linter.all false
set_option maxRecDepth 100000
set_option maxHeartbeats 0
namespace K01
open PySem PySem.Spec PyProof.Rows L2 DL
abbrev PR : Program := (PySem.Challenge.rw_endcolumns_k01_errors_by_hand).prog
def ecs : List HE.EcD := [⟨"EndError", none, HE.clsInit (top 1)⟩, ⟨"BadTables", some ("table" : Str), HE.clsInit (top 2)⟩, ⟨"BadNode", some ("path" : Str), HE.clsInit (top 3)⟩, ⟨"BadAsked", none, HE.clsInit (top 4)⟩, ⟨"BadRule", none, HE.clsInit (top 5)⟩, ⟨"NotPlain", some ("where" : Str), HE.clsInit (top 6)⟩, ⟨"BadProgram", none, HE.clsInit (top 7)⟩, ⟨"BadMore", some ("table" : Str), HE.clsInit (top 8)⟩, ⟨"BadPath", none, HE.clsInit (top 9)⟩, ⟨"BadAsk", none, HE.clsInit (top 10)⟩, ⟨"TooMany", some ("most" : Str), HE.clsInit (top 11)⟩, ⟨"OtherTables", none, HE.clsInit (top 12)⟩, ⟨"NoTable", some ("table" : Str), HE.clsInit (top 13)⟩, ⟨"BadName", some ("name" : Str), HE.clsInit (top 14)⟩, ⟨"IsThere", some ("name" : Str), HE.clsInit (top 15)⟩, ⟨"NoColumn", some ("name" : Str), HE.clsInit (top 16)⟩, ⟨"NothingDone", none, HE.clsInit (top 17)⟩, ⟨"BadJournal", some ("at" : Str), HE.clsInit (top 18)⟩, ⟨"BadText", none, HE.clsInit (top 19)⟩, ⟨"BadLine", some ("row" : Str), HE.clsInit (top 20)⟩]
def ks : List HE.KQ := [⟨true, "BadAsk", "BadAsk", hit_BadAsk⟩, ⟨true, "BadAsked", "BadAsked", hit_BadAsked⟩, ⟨true, "BadJournal", "BadJournal", hit_BadJournal⟩, ⟨true, "BadLine", "BadLine", hit_BadLine⟩, ⟨true, "BadMore", "BadMore", hit_BadMore⟩, ⟨true, "BadName", "BadName", hit_BadName⟩, ⟨true, "BadNode", "BadNode", hit_BadNode⟩, ⟨true, "BadPath", "BadPath", hit_BadPath⟩, ⟨true, "BadProgram", "BadProgram", hit_BadProgram⟩, ⟨true, "BadRule", "BadRule", hit_BadRule⟩, ⟨true, "BadTables", "BadTables", hit_BadTables⟩, ⟨true, "BadText", "BadText", hit_BadText⟩, ⟨true, "EndError", "EndError", hit_EndError⟩, ⟨true, "IsThere", "IsThere", hit_IsThere⟩, ⟨true, "NoColumn", "NoColumn", hit_NoColumn⟩, ⟨true, "NoTable", "NoTable", hit_NoTable⟩, ⟨true, "NotPlain", "NotPlain", hit_NotPlain⟩, ⟨true, "NothingDone", "NothingDone", hit_NothingDone⟩, ⟨true, "OtherTables", "OtherTables", hit_OtherTables⟩, ⟨true, "TooMany", "TooMany", hit_TooMany⟩, ⟨false, "ValueError", "ValueError", hit_ValueError⟩]
theorem tx_BadTables : HE.InitTx PR ⟨"BadTables", some ("table" : Str), HE.clsInit (top 2)⟩ "table" := ⟨⟨_, _, HE.qsOf (defBody (HE.clsInit (top 2))), by rfl, by rfl, by rfl, fun _ _ _ _ _ _ _ _ _ => by with_unfolding_all rfl, fun _ _ _ _ _ _ _ _ _ => by with_unfolding_all rfl, fun _ _ _ _ _ => by rfl⟩, by decide +kernel, by decide, by decide, by decide, by decide, by decide⟩
theorem tx_BadNode : HE.InitTx PR ⟨"BadNode", some ("path" : Str), HE.clsInit (top 3)⟩ "path" := ⟨⟨_, _, HE.qsOf (defBody (HE.clsInit (top 3))), by rfl, by rfl, by rfl, fun _ _ _ _ _ _ _ _ _ => by with_unfolding_all rfl, fun _ _ _ _ _ _ _ _ _ => by with_unfolding_all rfl, fun _ _ _ _ _ => by rfl⟩, by decide +kernel, by decide, by decide, by decide, by decide, by decide⟩
theorem tx_NotPlain : HE.InitTx PR ⟨"NotPlain", some ("where" : Str), HE.clsInit (top 6)⟩ "where" := ⟨⟨_, _, HE.qsOf (defBody (HE.clsInit (top 6))), by rfl, by rfl, by rfl, fun _ _ _ _ _ _ _ _ _ => by with_unfolding_all rfl, fun _ _ _ _ _ _ _ _ _ => by with_unfolding_all rfl, fun _ _ _ _ _ => by rfl⟩, by decide +kernel, by decide, by decide, by decide, by decide, by decide⟩
theorem tx_BadMore : HE.InitTx PR ⟨"BadMore", some ("table" : Str), HE.clsInit (top 8)⟩ "table" := ⟨⟨_, _, HE.qsOf (defBody (HE.clsInit (top 8))), by rfl, by rfl, by rfl, fun _ _ _ _ _ _ _ _ _ => by with_unfolding_all rfl, fun _ _ _ _ _ _ _ _ _ => by with_unfolding_all rfl, fun _ _ _ _ _ => by rfl⟩, by decide +kernel, by decide, by decide, by decide, by decide, by decide⟩
theorem tx_TooMany : HE.InitTx PR ⟨"TooMany", some ("most" : Str), HE.clsInit (top 11)⟩ "most" := ⟨⟨_, _, HE.qsOf (defBody (HE.clsInit (top 11))), by rfl, by rfl, by rfl, fun _ _ _ _ _ _ _ _ _ => by with_unfolding_all rfl, fun _ _ _ _ _ _ _ _ _ => by with_unfolding_all rfl, fun _ _ _ _ _ => by rfl⟩, by decide +kernel, by decide, by decide, by decide, by decide, by decide⟩
theorem tx_NoTable : HE.InitTx PR ⟨"NoTable", some ("table" : Str), HE.clsInit (top 13)⟩ "table" := ⟨⟨_, _, HE.qsOf (defBody (HE.clsInit (top 13))), by rfl, by rfl, by rfl, fun _ _ _ _ _ _ _ _ _ => by with_unfolding_all rfl, fun _ _ _ _ _ _ _ _ _ => by with_unfolding_all rfl, fun _ _ _ _ _ => by rfl⟩, by decide +kernel, by decide, by decide, by decide, by decide, by decide⟩
theorem tx_BadName : HE.InitTx PR ⟨"BadName", some ("name" : Str), HE.clsInit (top 14)⟩ "name" := ⟨⟨_, _, HE.qsOf (defBody (HE.clsInit (top 14))), by rfl, by rfl, by rfl, fun _ _ _ _ _ _ _ _ _ => by with_unfolding_all rfl, fun _ _ _ _ _ _ _ _ _ => by with_unfolding_all rfl, fun _ _ _ _ _ => by rfl⟩, by decide +kernel, by decide, by decide, by decide, by decide, by decide⟩
theorem tx_IsThere : HE.InitTx PR ⟨"IsThere", some ("name" : Str), HE.clsInit (top 15)⟩ "name" := ⟨⟨_, _, HE.qsOf (defBody (HE.clsInit (top 15))), by rfl, by rfl, by rfl, fun _ _ _ _ _ _ _ _ _ => by with_unfolding_all rfl, fun _ _ _ _ _ _ _ _ _ => by with_unfolding_all rfl, fun _ _ _ _ _ => by rfl⟩, by decide +kernel, by decide, by decide, by decide, by decide, by decide⟩
theorem tx_NoColumn : HE.InitTx PR ⟨"NoColumn", some ("name" : Str), HE.clsInit (top 16)⟩ "name" := ⟨⟨_, _, HE.qsOf (defBody (HE.clsInit (top 16))), by rfl, by rfl, by rfl, fun _ _ _ _ _ _ _ _ _ => by with_unfolding_all rfl, fun _ _ _ _ _ _ _ _ _ => by with_unfolding_all rfl, fun _ _ _ _ _ => by rfl⟩, by decide +kernel, by decide, by decide, by decide, by decide, by decide⟩
theorem tx_BadJournal : HE.InitTx PR ⟨"BadJournal", some ("at" : Str), HE.clsInit (top 18)⟩ "at" := ⟨⟨_, _, HE.qsOf (defBody (HE.clsInit (top 18))), by rfl, by rfl, by rfl, fun _ _ _ _ _ _ _ _ _ => by with_unfolding_all rfl, fun _ _ _ _ _ _ _ _ _ => by with_unfolding_all rfl, fun _ _ _ _ _ => by rfl⟩, by decide +kernel, by decide, by decide, by decide, by decide, by decide⟩
theorem tx_BadLine : HE.InitTx PR ⟨"BadLine", some ("row" : Str), HE.clsInit (top 20)⟩ "row" := ⟨⟨_, _, HE.qsOf (defBody (HE.clsInit (top 20))), by rfl, by rfl, by rfl, fun _ _ _ _ _ _ _ _ _ => by with_unfolding_all rfl, fun _ _ _ _ _ _ _ _ _ => by with_unfolding_all rfl, fun _ _ _ _ _ => by rfl⟩, by decide +kernel, by decide, by decide, by decide, by decide, by decide⟩
def dd_Lbegin : He.DefD := ⟨("_law_begin", none), "_law_begin", "_law_begin", defArgs s_Lbegin, defBody s_Lbegin, defScope s_Lbegin, [], []⟩
def dd_Lblend : He.DefD := ⟨("_law_blend", none), "_law_blend", "_law_blend", defArgs s_Lblend, defBody s_Lblend, defScope s_Lblend, [], []⟩
def dd_Ltake : He.DefD := ⟨("_law_take", none), "_law_take", "_law_take", defArgs s_Ltake, defBody s_Ltake, defScope s_Ltake, [], []⟩
def dd_Lpick : He.DefD := ⟨("_law_pick", none), "_law_pick", "_law_pick", defArgs s_Lpick, defBody s_Lpick, defScope s_Lpick, [], []⟩
def dd_Lmarks : He.DefD := ⟨("_law_marks", none), "_law_marks", "_law_marks", defArgs s_Lmarks, defBody s_Lmarks, defScope s_Lmarks, [], []⟩
def dd_Lalone : He.DefD := ⟨("_law_alone", none), "_law_alone", "_law_alone", defArgs s_Lalone, defBody s_Lalone, defScope s_Lalone, [], []⟩
def dd_Lplain : He.DefD := ⟨("_law_plain", none), "_law_plain", "_law_plain", defArgs s_Lplain, defBody s_Lplain, defScope s_Lplain, [], []⟩
def dd_Lwith_fields : He.DefD := ⟨("_law_with_fields", none), "_law_with_fields", "_law_with_fields", defArgs s_Lwith_fields, defBody s_Lwith_fields, defScope s_Lwith_fields, [], []⟩
def dd_law : He.DefD := ⟨("law", none), "law", "law", defArgs s_law, defBody s_law, defScope s_law, [], []⟩
def fns : List He.DefD := [dd_Lbegin, dd_Lblend, dd_Ltake, dd_Lpick, dd_Lmarks, dd_Lalone, dd_Lplain, dd_Lwith_fields, dd_law]
def fa : List He.Fa := [.glo "_law_begin", .glo "_law_blend", .glo "_law_take", .glo "_law_pick", .glo "_law_marks", .glo "_law_alone", .glo "_law_plain", .glo "_law_with_fields", .glo "law", .free "ValueError", .free "abs", .free "enumerate", .free "int", .free "isinstance", .free "len", .free "min", .free "range", .free "repr", .free "str"]
abbrev R : PySem.W.OpenRow := PySem.W.OpenLaw.row PySem.Challenge.rw_endcolumns_k01_errors_by_hand
abbrev hk : PySem.W.Hook := HE.hookE 4 fa fns PR.main.file ecs ks
def ob (s : PySem.W.SharedT) : HE.AlE := HE.obsEG 4 fa fns PR.main.file ecs ks (HandSHeadRun.getT s)
theorem ob_eq (s : PySem.W.SharedT) : ob s = hk.obs s.abs := HE.obsEG_eq (HandSHeadRun.getT_eq s)
def loose : List PySem.Str := ["EndError", "BadTables", "BadNode", "BadAsked", "BadRule", "NotPlain", "BadProgram", "BadMore", "BadPath", "BadAsk", "TooMany", "OtherTables", "NoTable", "BadName", "IsThere", "NoColumn", "NothingDone", "BadJournal", "BadText", "BadLine", "_law_begin", "_law_blend", "_law_take", "_law_pick", "_law_marks", "_law_alone", "_law_plain", "_law_with_fields"]
theorem run (w : World) : HandSHeadRun.RunEq R (PySem.W.view R.prog [30]) hk ob 5300 loose w := by
  intro os
  kernel_rfl
theorem fx {K : PySem.W.Frag} {h : Heap} {mg : Str → Option Value} (X : K.In h) (G : h.Ns mainGlobals mg) (c : HE.SaysE fa fns PR.main.file ecs ks K) : Nonempty (Fx PR K mg) := by
  obtain ⟨d_Lbegin, F_Lbegin⟩ := c.d.def_ 0 (d := dd_Lbegin) rfl
  obtain ⟨d_Lblend, F_Lblend⟩ := c.d.def_ 1 (d := dd_Lblend) rfl
  obtain ⟨d_Ltake, F_Ltake⟩ := c.d.def_ 2 (d := dd_Ltake) rfl
  obtain ⟨d_Lpick, F_Lpick⟩ := c.d.def_ 3 (d := dd_Lpick) rfl
  obtain ⟨d_Lmarks, F_Lmarks⟩ := c.d.def_ 4 (d := dd_Lmarks) rfl
  obtain ⟨d_Lalone, F_Lalone⟩ := c.d.def_ 5 (d := dd_Lalone) rfl
  obtain ⟨d_Lplain, F_Lplain⟩ := c.d.def_ 6 (d := dd_Lplain) rfl
  obtain ⟨d_Lwith_fields, F_Lwith_fields⟩ := c.d.def_ 7 (d := dd_Lwith_fields) rfl
  obtain ⟨d_law, F_law⟩ := c.d.def_ 8 (d := dd_law) rfl
  exact ⟨{ a_Lbegin := _, d_Lbegin := _, F_Lbegin := F_Lbegin, g_Lbegin := He.glo_ok X G (c.d.fact 0 (f := .glo "_law_begin") rfl), a_Lblend := _, d_Lblend := _, F_Lblend := F_Lblend, g_Lblend := He.glo_ok X G (c.d.fact 1 (f := .glo "_law_blend") rfl), a_Ltake := _, d_Ltake := _, F_Ltake := F_Ltake, g_Ltake := He.glo_ok X G (c.d.fact 2 (f := .glo "_law_take") rfl), a_Lpick := _, d_Lpick := _, F_Lpick := F_Lpick, g_Lpick := He.glo_ok X G (c.d.fact 3 (f := .glo "_law_pick") rfl), a_Lmarks := _, d_Lmarks := _, F_Lmarks := F_Lmarks, g_Lmarks := He.glo_ok X G (c.d.fact 4 (f := .glo "_law_marks") rfl), a_Lalone := _, d_Lalone := _, F_Lalone := F_Lalone, g_Lalone := He.glo_ok X G (c.d.fact 5 (f := .glo "_law_alone") rfl), a_Lplain := _, d_Lplain := _, F_Lplain := F_Lplain, g_Lplain := He.glo_ok X G (c.d.fact 6 (f := .glo "_law_plain") rfl), a_Lwith_fields := _, d_Lwith_fields := _, F_Lwith_fields := F_Lwith_fields, g_Lwith_fields := He.glo_ok X G (c.d.fact 7 (f := .glo "_law_with_fields") rfl), a_law := _, d_law := _, F_law := F_law, g_law := He.glo_ok X G (c.d.fact 8 (f := .glo "law") rfl), n_ValueError := He.free_ok X G (c.d.fact 9 (f := .free "ValueError") rfl), n_abs := He.free_ok X G (c.d.fact 10 (f := .free "abs") rfl), n_enumerate := He.free_ok X G (c.d.fact 11 (f := .free "enumerate") rfl), n_int := He.free_ok X G (c.d.fact 12 (f := .free "int") rfl), n_isinstance := He.free_ok X G (c.d.fact 13 (f := .free "isinstance") rfl), n_len := He.free_ok X G (c.d.fact 14 (f := .free "len") rfl), n_min := He.free_ok X G (c.d.fact 15 (f := .free "min") rfl), n_range := He.free_ok X G (c.d.fact 16 (f := .free "range") rfl), n_repr := He.free_ok X G (c.d.fact 17 (f := .free "repr") rfl), n_str := He.free_ok X G (c.d.fact 18 (f := .free "str") rfl), es := HE.esK K ecs, c_BadAsk := _, g_BadAsk := c.glo (e := ⟨"BadAsk", none, HE.clsInit (top 10)⟩) X G (List.mem_of_getElem? (i := 9) rfl), e_BadAsk := c.erB X G (st := HE.clsInit (top 10)) (List.mem_of_getElem? (i := 9) rfl), c_BadAsked := _, g_BadAsked := c.glo (e := ⟨"BadAsked", none, HE.clsInit (top 4)⟩) X G (List.mem_of_getElem? (i := 3) rfl), e_BadAsked := c.erB X G (st := HE.clsInit (top 4)) (List.mem_of_getElem? (i := 3) rfl), c_BadJournal := _, g_BadJournal := c.glo (e := ⟨"BadJournal", some ("at" : Str), HE.clsInit (top 18)⟩) X G (List.mem_of_getElem? (i := 17) rfl), e_BadJournal := c.erF X G (st := HE.clsInit (top 18)) (List.mem_of_getElem? (i := 17) rfl) tx_BadJournal, c_BadLine := _, g_BadLine := c.glo (e := ⟨"BadLine", some ("row" : Str), HE.clsInit (top 20)⟩) X G (List.mem_of_getElem? (i := 19) rfl), e_BadLine := c.erF X G (st := HE.clsInit (top 20)) (List.mem_of_getElem? (i := 19) rfl) tx_BadLine, c_BadMore := _, g_BadMore := c.glo (e := ⟨"BadMore", some ("table" : Str), HE.clsInit (top 8)⟩) X G (List.mem_of_getElem? (i := 7) rfl), e_BadMore := c.erF X G (st := HE.clsInit (top 8)) (List.mem_of_getElem? (i := 7) rfl) tx_BadMore, c_BadName := _, g_BadName := c.glo (e := ⟨"BadName", some ("name" : Str), HE.clsInit (top 14)⟩) X G (List.mem_of_getElem? (i := 13) rfl), e_BadName := c.erF X G (st := HE.clsInit (top 14)) (List.mem_of_getElem? (i := 13) rfl) tx_BadName, c_BadNode := _, g_BadNode := c.glo (e := ⟨"BadNode", some ("path" : Str), HE.clsInit (top 3)⟩) X G (List.mem_of_getElem? (i := 2) rfl), e_BadNode := c.erF X G (st := HE.clsInit (top 3)) (List.mem_of_getElem? (i := 2) rfl) tx_BadNode, c_BadPath := _, g_BadPath := c.glo (e := ⟨"BadPath", none, HE.clsInit (top 9)⟩) X G (List.mem_of_getElem? (i := 8) rfl), e_BadPath := c.erB X G (st := HE.clsInit (top 9)) (List.mem_of_getElem? (i := 8) rfl), c_BadProgram := _, g_BadProgram := c.glo (e := ⟨"BadProgram", none, HE.clsInit (top 7)⟩) X G (List.mem_of_getElem? (i := 6) rfl), e_BadProgram := c.erB X G (st := HE.clsInit (top 7)) (List.mem_of_getElem? (i := 6) rfl), c_BadRule := _, g_BadRule := c.glo (e := ⟨"BadRule", none, HE.clsInit (top 5)⟩) X G (List.mem_of_getElem? (i := 4) rfl), e_BadRule := c.erB X G (st := HE.clsInit (top 5)) (List.mem_of_getElem? (i := 4) rfl), c_BadTables := _, g_BadTables := c.glo (e := ⟨"BadTables", some ("table" : Str), HE.clsInit (top 2)⟩) X G (List.mem_of_getElem? (i := 1) rfl), e_BadTables := c.erF X G (st := HE.clsInit (top 2)) (List.mem_of_getElem? (i := 1) rfl) tx_BadTables, c_BadText := _, g_BadText := c.glo (e := ⟨"BadText", none, HE.clsInit (top 19)⟩) X G (List.mem_of_getElem? (i := 18) rfl), e_BadText := c.erB X G (st := HE.clsInit (top 19)) (List.mem_of_getElem? (i := 18) rfl), c_EndError := _, g_EndError := c.glo (e := ⟨"EndError", none, HE.clsInit (top 1)⟩) X G (List.mem_of_getElem? (i := 0) rfl), e_EndError := c.erB X G (st := HE.clsInit (top 1)) (List.mem_of_getElem? (i := 0) rfl), c_IsThere := _, g_IsThere := c.glo (e := ⟨"IsThere", some ("name" : Str), HE.clsInit (top 15)⟩) X G (List.mem_of_getElem? (i := 14) rfl), e_IsThere := c.erF X G (st := HE.clsInit (top 15)) (List.mem_of_getElem? (i := 14) rfl) tx_IsThere, c_NoColumn := _, g_NoColumn := c.glo (e := ⟨"NoColumn", some ("name" : Str), HE.clsInit (top 16)⟩) X G (List.mem_of_getElem? (i := 15) rfl), e_NoColumn := c.erF X G (st := HE.clsInit (top 16)) (List.mem_of_getElem? (i := 15) rfl) tx_NoColumn, c_NoTable := _, g_NoTable := c.glo (e := ⟨"NoTable", some ("table" : Str), HE.clsInit (top 13)⟩) X G (List.mem_of_getElem? (i := 12) rfl), e_NoTable := c.erF X G (st := HE.clsInit (top 13)) (List.mem_of_getElem? (i := 12) rfl) tx_NoTable, c_NotPlain := _, g_NotPlain := c.glo (e := ⟨"NotPlain", some ("where" : Str), HE.clsInit (top 6)⟩) X G (List.mem_of_getElem? (i := 5) rfl), e_NotPlain := c.erF X G (st := HE.clsInit (top 6)) (List.mem_of_getElem? (i := 5) rfl) tx_NotPlain, c_NothingDone := _, g_NothingDone := c.glo (e := ⟨"NothingDone", none, HE.clsInit (top 17)⟩) X G (List.mem_of_getElem? (i := 16) rfl), e_NothingDone := c.erB X G (st := HE.clsInit (top 17)) (List.mem_of_getElem? (i := 16) rfl), c_OtherTables := _, g_OtherTables := c.glo (e := ⟨"OtherTables", none, HE.clsInit (top 12)⟩) X G (List.mem_of_getElem? (i := 11) rfl), e_OtherTables := c.erB X G (st := HE.clsInit (top 12)) (List.mem_of_getElem? (i := 11) rfl), c_TooMany := _, g_TooMany := c.glo (e := ⟨"TooMany", some ("most" : Str), HE.clsInit (top 11)⟩) X G (List.mem_of_getElem? (i := 10) rfl), e_TooMany := c.erF X G (st := HE.clsInit (top 11)) (List.mem_of_getElem? (i := 10) rfl) tx_TooMany, exc := c.exc, flds := c.flds fldT (by decide +kernel), str := c.str, no_at := c.noat "at", no_most := c.noat "most", no_name := c.noat "name", no_path := c.noat "path", no_row := c.noat "row", no_table := c.noat "table", no_where := c.noat "where", is_BadAsk := c.isO (nm := "BadAsk") (ty := "BadAsk") (List.mem_of_getElem? (i := 0) rfl), isn_BadAsk := c.nonO (nm := "BadAsk") (ty := "BadAsk") (hit := hit_BadAsk) (List.mem_of_getElem? (i := 0) rfl), is_BadAsked := c.isO (nm := "BadAsked") (ty := "BadAsked") (List.mem_of_getElem? (i := 1) rfl), isn_BadAsked := c.nonO (nm := "BadAsked") (ty := "BadAsked") (hit := hit_BadAsked) (List.mem_of_getElem? (i := 1) rfl), is_BadJournal := c.isO (nm := "BadJournal") (ty := "BadJournal") (List.mem_of_getElem? (i := 2) rfl), isn_BadJournal := c.nonO (nm := "BadJournal") (ty := "BadJournal") (hit := hit_BadJournal) (List.mem_of_getElem? (i := 2) rfl), is_BadLine := c.isO (nm := "BadLine") (ty := "BadLine") (List.mem_of_getElem? (i := 3) rfl), isn_BadLine := c.nonO (nm := "BadLine") (ty := "BadLine") (hit := hit_BadLine) (List.mem_of_getElem? (i := 3) rfl), is_BadMore := c.isO (nm := "BadMore") (ty := "BadMore") (List.mem_of_getElem? (i := 4) rfl), isn_BadMore := c.nonO (nm := "BadMore") (ty := "BadMore") (hit := hit_BadMore) (List.mem_of_getElem? (i := 4) rfl), is_BadName := c.isO (nm := "BadName") (ty := "BadName") (List.mem_of_getElem? (i := 5) rfl), isn_BadName := c.nonO (nm := "BadName") (ty := "BadName") (hit := hit_BadName) (List.mem_of_getElem? (i := 5) rfl), is_BadNode := c.isO (nm := "BadNode") (ty := "BadNode") (List.mem_of_getElem? (i := 6) rfl), isn_BadNode := c.nonO (nm := "BadNode") (ty := "BadNode") (hit := hit_BadNode) (List.mem_of_getElem? (i := 6) rfl), is_BadPath := c.isO (nm := "BadPath") (ty := "BadPath") (List.mem_of_getElem? (i := 7) rfl), isn_BadPath := c.nonO (nm := "BadPath") (ty := "BadPath") (hit := hit_BadPath) (List.mem_of_getElem? (i := 7) rfl), is_BadProgram := c.isO (nm := "BadProgram") (ty := "BadProgram") (List.mem_of_getElem? (i := 8) rfl), isn_BadProgram := c.nonO (nm := "BadProgram") (ty := "BadProgram") (hit := hit_BadProgram) (List.mem_of_getElem? (i := 8) rfl), is_BadRule := c.isO (nm := "BadRule") (ty := "BadRule") (List.mem_of_getElem? (i := 9) rfl), isn_BadRule := c.nonO (nm := "BadRule") (ty := "BadRule") (hit := hit_BadRule) (List.mem_of_getElem? (i := 9) rfl), is_BadTables := c.isO (nm := "BadTables") (ty := "BadTables") (List.mem_of_getElem? (i := 10) rfl), isn_BadTables := c.nonO (nm := "BadTables") (ty := "BadTables") (hit := hit_BadTables) (List.mem_of_getElem? (i := 10) rfl), is_BadText := c.isO (nm := "BadText") (ty := "BadText") (List.mem_of_getElem? (i := 11) rfl), isn_BadText := c.nonO (nm := "BadText") (ty := "BadText") (hit := hit_BadText) (List.mem_of_getElem? (i := 11) rfl), is_EndError := c.isO (nm := "EndError") (ty := "EndError") (List.mem_of_getElem? (i := 12) rfl), isn_EndError := c.nonO (nm := "EndError") (ty := "EndError") (hit := hit_EndError) (List.mem_of_getElem? (i := 12) rfl), is_IsThere := c.isO (nm := "IsThere") (ty := "IsThere") (List.mem_of_getElem? (i := 13) rfl), isn_IsThere := c.nonO (nm := "IsThere") (ty := "IsThere") (hit := hit_IsThere) (List.mem_of_getElem? (i := 13) rfl), is_NoColumn := c.isO (nm := "NoColumn") (ty := "NoColumn") (List.mem_of_getElem? (i := 14) rfl), isn_NoColumn := c.nonO (nm := "NoColumn") (ty := "NoColumn") (hit := hit_NoColumn) (List.mem_of_getElem? (i := 14) rfl), is_NoTable := c.isO (nm := "NoTable") (ty := "NoTable") (List.mem_of_getElem? (i := 15) rfl), isn_NoTable := c.nonO (nm := "NoTable") (ty := "NoTable") (hit := hit_NoTable) (List.mem_of_getElem? (i := 15) rfl), is_NotPlain := c.isO (nm := "NotPlain") (ty := "NotPlain") (List.mem_of_getElem? (i := 16) rfl), isn_NotPlain := c.nonO (nm := "NotPlain") (ty := "NotPlain") (hit := hit_NotPlain) (List.mem_of_getElem? (i := 16) rfl), is_NothingDone := c.isO (nm := "NothingDone") (ty := "NothingDone") (List.mem_of_getElem? (i := 17) rfl), isn_NothingDone := c.nonO (nm := "NothingDone") (ty := "NothingDone") (hit := hit_NothingDone) (List.mem_of_getElem? (i := 17) rfl), is_OtherTables := c.isO (nm := "OtherTables") (ty := "OtherTables") (List.mem_of_getElem? (i := 18) rfl), isn_OtherTables := c.nonO (nm := "OtherTables") (ty := "OtherTables") (hit := hit_OtherTables) (List.mem_of_getElem? (i := 18) rfl), is_TooMany := c.isO (nm := "TooMany") (ty := "TooMany") (List.mem_of_getElem? (i := 19) rfl), isn_TooMany := c.nonO (nm := "TooMany") (ty := "TooMany") (hit := hit_TooMany) (List.mem_of_getElem? (i := 19) rfl), is_ValueError := c.isT (nm := "ValueError") (ty := "ValueError") (List.mem_of_getElem? (i := 20) rfl), isn_ValueError := c.nonT (nm := "ValueError") (ty := "ValueError") (hit := hit_ValueError) (List.mem_of_getElem? (i := 20) rfl) }⟩
end K01
open PySem PySem.W PySem.Calls PyProof.Rows
theorem PySem.Challenge.cw_endcolumns_k01_errors_by_hand_holds : PySem.Challenge.rw_endcolumns_k01_errors_by_hand.Holds := by
  w_on; o_law
  refine HandSHeadRun.head_any (r := OpenLaw.row PySem.Challenge.rw_endcolumns_k01_errors_by_hand) (q := view (OpenLaw.row PySem.Challenge.rw_endcolumns_k01_errors_by_hand).prog [30]) (H := K01.hk) (ob := K01.ob) (M := 5300) (loose := K01.loose) (d := HandSHeadRun.topDef (OpenLaw.row PySem.Challenge.rw_endcolumns_k01_errors_by_hand).prog 30) (kwd := []) K01.ob_eq
    (by kernel_rfl) (fun s => by kernel_rfl) K01.run (by kernel_rfl) (by kernel_rfl) (by kernel_rfl) (by rfl) (by first | assumption | decide +kernel) (by decide +kernel) ⟨rfl, rfl, rfl, rfl, rfl, by decide +kernel⟩ ?hw ?hc
  case hw => w_witness2
  case hc =>
    refine DL.walk_ofG (l := PySem.Challenge.rw_endcolumns_k01_errors_by_hand) (n := 63) (k := 6) (x := "_law_script") (CX := fun w => L2.CX (PySem.Challenge.rw_endcolumns_k01_errors_by_hand).prog w) rfl (by decide) (by kernel_rfl) ⟨rfl, by decide, by decide⟩ ?F (fun _ _ _ _ _ ⟨_, _, _, _, _, _, _, _, _, _, _, _, z⟩ => z)
    intro w mg fa h Y G hmg0
    obtain ⟨K, KX, c⟩ := Y
    have hmg : mg ("law" : PySem.Str) = some (.ref fa) := by
      have e : (HandSHeadRun.topDef (OpenLaw.row PySem.Challenge.rw_endcolumns_k01_errors_by_hand).prog 30).name = ("law" : PySem.Str) := by kernel_rfl
      rw [← e]
      exact hmg0
    obtain ⟨x⟩ := K01.fx KX G c
    have e := hmg.symm.trans x.g_law
    cases e
    have b := L2.FunD.bindsA (ps := ["_law_script"]) x.F_law fun _ _ _ _ _ _ us hl => match us, hl with | [_], _ => rfl
    exact ⟨K, x.d_law, DL.spLaw K, KX, fun s v => b s [v] rfl, fun H a ns hl hO hq => ⟨a, ns, rfl, hO, hq, hl, fun _ => rfl⟩, fun base _ _ => K01.ok_law x K01.math⟩

