import PyProof.Rows.All
import Wide.All
import OpenK.AllK
import Wide.FinOn
import Lean
import PySem.Challenge.RW_np0108_01
open PySem PySem.Spec PySem.Calls PySem.W PyProof.Rows
set_option Elab.async false
set_option maxRecDepth 100000
set_option maxHeartbeats 8000000
set_option linter.all false
set_option rowWalk.seconds 0
set_option compiler.extract_closed false
set_option genSizeOf false
set_option genInjectivity false
set_option bootstrap.genMatcherCode false
namespace Mine
noncomputable def hd.tw10012880186880212623 : Nat := 0
noncomputable def hd.tw10024716035694756283 : Nat := 0
noncomputable def hd.tw10030107230732127627 : Nat := 0
noncomputable def hd.tw100483095206116625 : Nat := 0
noncomputable def hd.tw1005483496087919985 : Nat := 0
noncomputable def hd.tw10098268173465320503 : Nat := 0
noncomputable def hd.tw10111801491309104144 : Nat := 0
noncomputable def hd.tw10117440562283002822 : Nat := 0
noncomputable def hd.tw1013155817946168525 : Nat := 0
noncomputable def hd.tw10170382586518783626 : Nat := 0
noncomputable def hd.tw10203026625882799534 : Nat := 0
noncomputable def hd.tw10216474801634566288 : Nat := 0
noncomputable def hd.tw10246146449241189800 : Nat := 0
noncomputable def hd.tw10258999931320997221 : Nat := 0
noncomputable def hd.tw10264135568141901301 : Nat := 0
noncomputable def hd.tw10286656452748174568 : Nat := 0
noncomputable def hd.tw10292235466723388172 : Nat := 0
noncomputable def hd.tw1033889070964956483 : Nat := 0
noncomputable def hd.tw10365702040365258594 : Nat := 0
noncomputable def hd.tw10403243965636340961 : Nat := 0
noncomputable def hd.tw10424393626065333798 : Nat := 0
noncomputable def hd.tw1043307727769730188 : Nat := 0
noncomputable def hd.tw10458740792067480800 : Nat := 0
noncomputable def hd.tw10465514089279642386 : Nat := 0
noncomputable def hd.tw10491609206876299696 : Nat := 0
noncomputable def hd.tw1051681510052472703 : Nat := 0
noncomputable def hd.tw10543509907540572799 : Nat := 0
noncomputable def hd.tw10583446816852156582 : Nat := 0
noncomputable def hd.tw10603584201595350602 : Nat := 0
noncomputable def hd.tw10614716105012338702 : Nat := 0
noncomputable def hd.tw10727248033764811480 : Nat := 0
noncomputable def hd.tw10738003575532504788 : Nat := 0
noncomputable def hd.tw10752148897807903841 : Nat := 0
noncomputable def hd.tw10778013660560245624 : Nat := 0
noncomputable def hd.tw10778257442750969130 : Nat := 0
noncomputable def hd.tw10781468475247234061 : Nat := 0
noncomputable def hd.tw10784824025267889561 : Nat := 0
noncomputable def hd.tw10788059911547816233 : Nat := 0
noncomputable def hd.tw10792051664901133789 : Nat := 0
noncomputable def hd.tw10806950440038215891 : Nat := 0
noncomputable def hd.tw10841399608879689956 : Nat := 0
noncomputable def hd.tw10847404155465417027 : Nat := 0
noncomputable def hd.tw10860895700388868024 : Nat := 0
noncomputable def hd.tw10879034167726328663 : Nat := 0
noncomputable def hd.tw1088296927520436173 : Nat := 0
noncomputable def hd.tw10905682514733158466 : Nat := 0
noncomputable def hd.tw10919297434634762262 : Nat := 0
noncomputable def hd.tw10936023034151202618 : Nat := 0
noncomputable def hd.tw10949625832625181284 : Nat := 0
noncomputable def hd.tw10955317050725887447 : Nat := 0
noncomputable def hd.tw1097998534492414930 : Nat := 0
noncomputable def hd.tw11011131195910976488 : Nat := 0
noncomputable def hd.tw11032806212648032379 : Nat := 0
noncomputable def hd.tw11034497122203965937 : Nat := 0
noncomputable def hd.tw11054480109507316185 : Nat := 0
noncomputable def hd.tw11079593142295127227 : Nat := 0
noncomputable def hd.tw11115866451450875312 : Nat := 0
noncomputable def hd.tw11117797201346649052 : Nat := 0
noncomputable def hd.tw11122889685044009724 : Nat := 0
noncomputable def hd.tw11128854368766332075 : Nat := 0
noncomputable def hd.tw11136197038861592535 : Nat := 0
noncomputable def hd.tw11151547217846952531 : Nat := 0
noncomputable def hd.tw11162318198679636149 : Nat := 0
noncomputable def hd.tw1118553966540926140 : Nat := 0
noncomputable def hd.tw11213053971927718326 : Nat := 0
noncomputable def hd.tw11232374478483605306 : Nat := 0
noncomputable def hd.tw11249132867342737325 : Nat := 0
noncomputable def hd.tw11251137523995926341 : Nat := 0
noncomputable def hd.tw11256106856564762260 : Nat := 0
noncomputable def hd.tw1129884963351977449 : Nat := 0
noncomputable def hd.tw11319892378374348655 : Nat := 0
noncomputable def hd.tw11364443708160879001 : Nat := 0
noncomputable def hd.tw11389486352061984695 : Nat := 0
noncomputable def hd.tw11399449904127653305 : Nat := 0
noncomputable def hd.tw11402939732021071671 : Nat := 0
noncomputable def hd.tw11472165163037031739 : Nat := 0
noncomputable def hd.tw1147470481896660410 : Nat := 0
noncomputable def hd.tw11507959949525687343 : Nat := 0
noncomputable def hd.tw11513968764499736323 : Nat := 0
noncomputable def hd.tw11551083187376567056 : Nat := 0
noncomputable def hd.tw11587034568685482758 : Nat := 0
noncomputable def hd.tw1162550495960143265 : Nat := 0
noncomputable def hd.tw11631869004601391166 : Nat := 0
noncomputable def hd.tw11631947586910100387 : Nat := 0
noncomputable def hd.tw11652457597714270106 : Nat := 0
noncomputable def hd.tw11660266114150955751 : Nat := 0
noncomputable def hd.tw11672842613191775419 : Nat := 0
noncomputable def hd.tw11709330566771433103 : Nat := 0
noncomputable def hd.tw11713075325732132258 : Nat := 0
noncomputable def hd.tw11729958736954745289 : Nat := 0
noncomputable def hd.tw11754176132448286083 : Nat := 0
noncomputable def hd.tw11778180911958503814 : Nat := 0
noncomputable def hd.tw11801993109049149486 : Nat := 0
noncomputable def hd.tw11810488352746199185 : Nat := 0
noncomputable def hd.tw11814627755841444246 : Nat := 0
noncomputable def hd.tw11852641145169952659 : Nat := 0
noncomputable def hd.tw11869253278440568778 : Nat := 0
noncomputable def hd.tw11893437276241958245 : Nat := 0
noncomputable def hd.tw11915594877312485397 : Nat := 0
noncomputable def hd.tw11917015161858427179 : Nat := 0
noncomputable def hd.tw1194904439430580092 : Nat := 0
noncomputable def hd.tw11953376511379268794 : Nat := 0
noncomputable def hd.tw11968265576560266318 : Nat := 0
noncomputable def hd.tw1197925565968671727 : Nat := 0
noncomputable def hd.tw12023040214023829324 : Nat := 0
noncomputable def hd.tw12050417470231563642 : Nat := 0
noncomputable def hd.tw12058812876911547015 : Nat := 0
noncomputable def hd.tw12070051907170230399 : Nat := 0
noncomputable def hd.tw12070654863422294720 : Nat := 0
noncomputable def hd.tw1208734638264122097 : Nat := 0
noncomputable def hd.tw12112201142124510154 : Nat := 0
noncomputable def hd.tw12113243949977362033 : Nat := 0
noncomputable def hd.tw12127338746724423809 : Nat := 0
noncomputable def hd.tw12173100003817136821 : Nat := 0
noncomputable def hd.tw1222794163293265305 : Nat := 0
noncomputable def hd.tw12239354291974867115 : Nat := 0
noncomputable def hd.tw12268275109542032366 : Nat := 0
noncomputable def hd.tw12271959270614036898 : Nat := 0
noncomputable def hd.tw12337632362937886050 : Nat := 0
noncomputable def hd.tw12393119488966705847 : Nat := 0
noncomputable def hd.tw12394076208661396346 : Nat := 0
noncomputable def hd.tw12399718760709695909 : Nat := 0
noncomputable def hd.tw1241404454085649124 : Nat := 0
noncomputable def hd.tw12459740579856956213 : Nat := 0
noncomputable def hd.tw12480425521718506038 : Nat := 0
noncomputable def hd.tw12487502673411948298 : Nat := 0
noncomputable def hd.tw12575139184659369484 : Nat := 0
noncomputable def hd.tw12588582704262371052 : Nat := 0
noncomputable def hd.tw12591134339009171964 : Nat := 0
noncomputable def hd.tw12602439190401603521 : Nat := 0
noncomputable def hd.tw12611767792052310623 : Nat := 0
noncomputable def hd.tw12614811148066621264 : Nat := 0
noncomputable def hd.tw12629568148972539762 : Nat := 0
noncomputable def hd.tw12631932088317031055 : Nat := 0
noncomputable def hd.tw12647368939536790636 : Nat := 0
noncomputable def hd.tw12744807935193187038 : Nat := 0
noncomputable def hd.tw12769127236821124696 : Nat := 0
noncomputable def hd.tw12832683148521936107 : Nat := 0
noncomputable def hd.tw128412058910260475 : Nat := 0
noncomputable def hd.tw12870888531099404533 : Nat := 0
noncomputable def hd.tw12901994302517312135 : Nat := 0
noncomputable def hd.tw12940713784782232206 : Nat := 0
noncomputable def hd.tw12949589719889679912 : Nat := 0
noncomputable def hd.tw12952509933414984302 : Nat := 0
noncomputable def hd.tw1299046323782801668 : Nat := 0
noncomputable def hd.tw12994019391074448376 : Nat := 0
noncomputable def hd.tw13038990169509382042 : Nat := 0
noncomputable def hd.tw13047593935725612058 : Nat := 0
noncomputable def hd.tw13066319289922817542 : Nat := 0
noncomputable def hd.tw13092906067662860646 : Nat := 0
noncomputable def hd.tw13122850982685727845 : Nat := 0
noncomputable def hd.tw13132618709999183898 : Nat := 0
noncomputable def hd.tw13160604113216922460 : Nat := 0
noncomputable def hd.tw13171141561276507362 : Nat := 0
noncomputable def hd.tw13181700845877081190 : Nat := 0
noncomputable def hd.tw13217225542625558698 : Nat := 0
noncomputable def hd.tw13217827037086042188 : Nat := 0
noncomputable def hd.tw13218659294841961345 : Nat := 0
noncomputable def hd.tw13220430256171166289 : Nat := 0
noncomputable def hd.tw13225837485096350037 : Nat := 0
noncomputable def hd.tw13262116225945230012 : Nat := 0
noncomputable def hd.tw13267510147771200024 : Nat := 0
noncomputable def hd.tw13277076834127875243 : Nat := 0
noncomputable def hd.tw13280443560766958183 : Nat := 0
noncomputable def hd.tw13285133528070534704 : Nat := 0
noncomputable def hd.tw13293453174229064190 : Nat := 0
noncomputable def hd.tw1331086792558400476 : Nat := 0
noncomputable def hd.tw13315533130655954831 : Nat := 0
noncomputable def hd.tw13321331477185743149 : Nat := 0
noncomputable def hd.tw13322179722446271537 : Nat := 0
noncomputable def hd.tw13330244855972007585 : Nat := 0
noncomputable def hd.tw13363553139645760527 : Nat := 0
noncomputable def hd.tw13365295217650922812 : Nat := 0
noncomputable def hd.tw13372043803930879067 : Nat := 0
noncomputable def hd.tw13409441903868389331 : Nat := 0
noncomputable def hd.tw13431754692932380062 : Nat := 0
noncomputable def hd.tw13466754112058979494 : Nat := 0
noncomputable def hd.tw13474097485772985973 : Nat := 0
noncomputable def hd.tw13475242022060392486 : Nat := 0
noncomputable def hd.tw13483081372092288885 : Nat := 0
noncomputable def hd.tw13518370688599389936 : Nat := 0
noncomputable def hd.tw13531707123254989501 : Nat := 0
noncomputable def hd.tw13532847315355080253 : Nat := 0
noncomputable def hd.tw13566260322249332789 : Nat := 0
noncomputable def hd.tw1359830224848277088 : Nat := 0
noncomputable def hd.tw13609717118414637909 : Nat := 0
noncomputable def hd.tw13628142620392400109 : Nat := 0
noncomputable def hd.tw13638418597567726942 : Nat := 0
noncomputable def hd.tw13699044414388791291 : Nat := 0
noncomputable def hd.tw13770079208771991547 : Nat := 0
noncomputable def hd.tw137786328141462057 : Nat := 0
noncomputable def hd.tw13783031573616600631 : Nat := 0
noncomputable def hd.tw13790719812936386609 : Nat := 0
noncomputable def hd.tw1379335367625716243 : Nat := 0
noncomputable def hd.tw13855946660403688772 : Nat := 0
noncomputable def hd.tw13866372431405929976 : Nat := 0
noncomputable def hd.tw13893168526513508166 : Nat := 0
noncomputable def hd.tw13903934854276604550 : Nat := 0
noncomputable def hd.tw13929354066492186541 : Nat := 0
noncomputable def hd.tw13994979335412520660 : Nat := 0
noncomputable def hd.tw14006173549557618073 : Nat := 0
noncomputable def hd.tw14029546391885035639 : Nat := 0
noncomputable def hd.tw14040608126747316905 : Nat := 0
noncomputable def hd.tw14060154772996877548 : Nat := 0
noncomputable def hd.tw14060237666301923597 : Nat := 0
noncomputable def hd.tw1409312971732116557 : Nat := 0
noncomputable def hd.tw14103535550066685397 : Nat := 0
noncomputable def hd.tw14120982254508448379 : Nat := 0
noncomputable def hd.tw14137390275340422267 : Nat := 0
noncomputable def hd.tw14176624398918483544 : Nat := 0
noncomputable def hd.tw1425423193147277237 : Nat := 0
noncomputable def hd.tw1439246655266547700 : Nat := 0
noncomputable def hd.tw14400467628812073631 : Nat := 0
noncomputable def hd.tw14438451200097066615 : Nat := 0
noncomputable def hd.tw14439243815434019604 : Nat := 0
noncomputable def hd.tw14457593812595234344 : Nat := 0
noncomputable def hd.tw14462709497994964445 : Nat := 0
noncomputable def hd.tw14492701947808656938 : Nat := 0
noncomputable def hd.tw1452849714261714991 : Nat := 0
noncomputable def hd.tw14553816603554493358 : Nat := 0
noncomputable def hd.tw14560493823538711346 : Nat := 0
noncomputable def hd.tw14567429538950270057 : Nat := 0
noncomputable def hd.tw14598272352848978880 : Nat := 0
noncomputable def hd.tw14612060388864693735 : Nat := 0
noncomputable def hd.tw14620637471214046174 : Nat := 0
noncomputable def hd.tw14667805832236412624 : Nat := 0
noncomputable def hd.tw14683707025165767436 : Nat := 0
noncomputable def hd.tw14685462170515437407 : Nat := 0
noncomputable def hd.tw14705683404202351889 : Nat := 0
noncomputable def hd.tw14706022693812145444 : Nat := 0
noncomputable def hd.tw14745743045033390146 : Nat := 0
noncomputable def hd.tw14768889098011018680 : Nat := 0
noncomputable def hd.tw14830267203646239459 : Nat := 0
noncomputable def hd.tw14852329139284432860 : Nat := 0
noncomputable def hd.tw14892549342360969540 : Nat := 0
noncomputable def hd.tw14896477498954680388 : Nat := 0
noncomputable def hd.tw14906377314874228009 : Nat := 0
noncomputable def hd.tw14955159897011116063 : Nat := 0
noncomputable def hd.tw14960593345356199642 : Nat := 0
noncomputable def hd.tw14980023328507725902 : Nat := 0
noncomputable def hd.tw14984183105004643987 : Nat := 0
noncomputable def hd.tw14991384322417631237 : Nat := 0
noncomputable def hd.tw15042006015671813226 : Nat := 0
noncomputable def hd.tw15043168886218598503 : Nat := 0
noncomputable def hd.tw15048261121198461528 : Nat := 0
noncomputable def hd.tw15089522573102190283 : Nat := 0
noncomputable def hd.tw15103106377680225435 : Nat := 0
noncomputable def hd.tw15152743547302097792 : Nat := 0
noncomputable def hd.tw15179676742415161110 : Nat := 0
noncomputable def hd.tw15207398651663016943 : Nat := 0
noncomputable def hd.tw15213948185873263833 : Nat := 0
noncomputable def hd.tw15220180469806662145 : Nat := 0
noncomputable def hd.tw15279998641719260112 : Nat := 0
noncomputable def hd.tw1535757262459896012 : Nat := 0
noncomputable def hd.tw15367242080415987702 : Nat := 0
noncomputable def hd.tw15368132723985388332 : Nat := 0
noncomputable def hd.tw15411387601460861337 : Nat := 0
noncomputable def hd.tw15416985209724490359 : Nat := 0
noncomputable def hd.tw15422856539912107476 : Nat := 0
noncomputable def hd.tw15427206886491885616 : Nat := 0
noncomputable def hd.tw15463257786427224491 : Nat := 0
noncomputable def hd.tw15508949281206285077 : Nat := 0
noncomputable def hd.tw15527848837575444561 : Nat := 0
noncomputable def hd.tw15529170255622000948 : Nat := 0
noncomputable def hd.tw15595854959937240912 : Nat := 0
noncomputable def hd.tw15606596725942863602 : Nat := 0
noncomputable def hd.tw15610959940260225430 : Nat := 0
noncomputable def hd.tw15615420239508185596 : Nat := 0
noncomputable def hd.tw15615537253650120727 : Nat := 0
noncomputable def hd.tw15616948245753086127 : Nat := 0
noncomputable def hd.tw1563692795949630186 : Nat := 0
noncomputable def hd.tw15637593595834871717 : Nat := 0
noncomputable def hd.tw15642763164714097627 : Nat := 0
noncomputable def hd.tw15673258824015622330 : Nat := 0
noncomputable def hd.tw15675198926951892251 : Nat := 0
noncomputable def hd.tw15683763237869141255 : Nat := 0
noncomputable def hd.tw15687388767607454252 : Nat := 0
noncomputable def hd.tw15759970867653108152 : Nat := 0
noncomputable def hd.tw15790720579355451973 : Nat := 0
noncomputable def hd.tw1580110805410547442 : Nat := 0
noncomputable def hd.tw15813434630575017362 : Nat := 0
noncomputable def hd.tw15852365999677673905 : Nat := 0
noncomputable def hd.tw1588505670450824345 : Nat := 0
noncomputable def hd.tw15924899543223041283 : Nat := 0
noncomputable def hd.tw15946356160694317329 : Nat := 0
noncomputable def hd.tw15946388913382835224 : Nat := 0
noncomputable def hd.tw15948780112781908787 : Nat := 0
noncomputable def hd.tw15987713032478767096 : Nat := 0
noncomputable def hd.tw15992342658441690333 : Nat := 0
noncomputable def hd.tw1600037746751723098 : Nat := 0
noncomputable def hd.tw16006246977917349235 : Nat := 0
noncomputable def hd.tw16007149819294483003 : Nat := 0
noncomputable def hd.tw16009884308244765898 : Nat := 0
noncomputable def hd.tw16011055738799735888 : Nat := 0
noncomputable def hd.tw16029623286316568529 : Nat := 0
noncomputable def hd.tw1603739661141634737 : Nat := 0
noncomputable def hd.tw16037735763661986305 : Nat := 0
noncomputable def hd.tw16056359734778111409 : Nat := 0
noncomputable def hd.tw16064382804478563927 : Nat := 0
noncomputable def hd.tw1610171440888473627 : Nat := 0
noncomputable def hd.tw16138627921320673191 : Nat := 0
noncomputable def hd.tw16155205043701107222 : Nat := 0
noncomputable def hd.tw16156708551869547534 : Nat := 0
noncomputable def hd.tw16157073509204512506 : Nat := 0
noncomputable def hd.tw16169374299450900766 : Nat := 0
noncomputable def hd.tw16171809288044610508 : Nat := 0
noncomputable def hd.tw16178712458983371728 : Nat := 0
noncomputable def hd.tw16194383521188589630 : Nat := 0
noncomputable def hd.tw16211521421427940678 : Nat := 0
noncomputable def hd.tw16240987189780228909 : Nat := 0
noncomputable def hd.tw16257038226119295666 : Nat := 0
noncomputable def hd.tw16259696140248634718 : Nat := 0
noncomputable def hd.tw162610821266807592 : Nat := 0
noncomputable def hd.tw16299908979028503884 : Nat := 0
noncomputable def hd.tw16302227732802510677 : Nat := 0
noncomputable def hd.tw16332348944364537037 : Nat := 0
noncomputable def hd.tw16345102440705955213 : Nat := 0
noncomputable def hd.tw16357263729072622229 : Nat := 0
noncomputable def hd.tw16412773359747925120 : Nat := 0
noncomputable def hd.tw16432713993328977331 : Nat := 0
noncomputable def hd.tw16473244170626142550 : Nat := 0
noncomputable def hd.tw16477043939570097188 : Nat := 0
noncomputable def hd.tw16487816990975572028 : Nat := 0
noncomputable def hd.tw16575926881162592496 : Nat := 0
noncomputable def hd.tw1660146310509766314 : Nat := 0
noncomputable def hd.tw16634568088961857937 : Nat := 0
noncomputable def hd.tw16640546478005224243 : Nat := 0
noncomputable def hd.tw16649331688326792143 : Nat := 0
noncomputable def hd.tw1666387254794493845 : Nat := 0
noncomputable def hd.tw16684818696116721337 : Nat := 0
noncomputable def hd.tw16713699803418581334 : Nat := 0
noncomputable def hd.tw16722109127936396110 : Nat := 0
noncomputable def hd.tw16733963527221155113 : Nat := 0
noncomputable def hd.tw16772102934027710169 : Nat := 0
noncomputable def hd.tw16794629799341752650 : Nat := 0
noncomputable def hd.tw16828841361933241965 : Nat := 0
noncomputable def hd.tw16853341256802265648 : Nat := 0
noncomputable def hd.tw16858285156579221889 : Nat := 0
noncomputable def hd.tw16896567674234606475 : Nat := 0
noncomputable def hd.tw16904818350239718627 : Nat := 0
noncomputable def hd.tw16919406825032445293 : Nat := 0
noncomputable def hd.tw16920754564084929960 : Nat := 0
noncomputable def hd.tw16945582573551092051 : Nat := 0
noncomputable def hd.tw16970440968685349367 : Nat := 0
noncomputable def hd.tw1699103778626983548 : Nat := 0
noncomputable def hd.tw17001982702790524580 : Nat := 0
noncomputable def hd.tw17047115858639842297 : Nat := 0
noncomputable def hd.tw17070941380808615275 : Nat := 0
noncomputable def hd.tw17076082267592564974 : Nat := 0
noncomputable def hd.tw17087091549796120035 : Nat := 0
noncomputable def hd.tw17088047866570459193 : Nat := 0
noncomputable def hd.tw1712922718373300912 : Nat := 0
noncomputable def hd.tw17143205804819765802 : Nat := 0
noncomputable def hd.tw17172931820748874959 : Nat := 0
noncomputable def hd.tw17234923516513369237 : Nat := 0
noncomputable def hd.tw17252143746492648416 : Nat := 0
noncomputable def hd.tw17258206423299326598 : Nat := 0
noncomputable def hd.tw17311223219408574766 : Nat := 0
noncomputable def hd.tw17312999752573914782 : Nat := 0
noncomputable def hd.tw17330132731328240911 : Nat := 0
noncomputable def hd.tw17330945745186091897 : Nat := 0
noncomputable def hd.tw17336936450418997793 : Nat := 0
noncomputable def hd.tw17377529257436501650 : Nat := 0
noncomputable def hd.tw17387473266821786944 : Nat := 0
noncomputable def hd.tw17420951861521290806 : Nat := 0
noncomputable def hd.tw17429513623812275283 : Nat := 0
noncomputable def hd.tw17447410573909459338 : Nat := 0
noncomputable def hd.tw17470177872615007328 : Nat := 0
noncomputable def hd.tw17471934795394947791 : Nat := 0
noncomputable def hd.tw17491280204586788870 : Nat := 0
noncomputable def hd.tw17495340751864218003 : Nat := 0
noncomputable def hd.tw17542962492245011380 : Nat := 0
noncomputable def hd.tw17574625026820762457 : Nat := 0
noncomputable def hd.tw17577478241444706838 : Nat := 0
noncomputable def hd.tw17588044629489971554 : Nat := 0
noncomputable def hd.tw17599816209265215132 : Nat := 0
noncomputable def hd.tw17628472586750557451 : Nat := 0
noncomputable def hd.tw17673860158736603733 : Nat := 0
noncomputable def hd.tw17681399029576232318 : Nat := 0
noncomputable def hd.tw17696971302532935780 : Nat := 0
noncomputable def hd.tw17711083657039698284 : Nat := 0
noncomputable def hd.tw17714235663813219645 : Nat := 0
noncomputable def hd.tw17739348878880393726 : Nat := 0
noncomputable def hd.tw17772917993097084435 : Nat := 0
noncomputable def hd.tw1781861727890032366 : Nat := 0
noncomputable def hd.tw17843490464661113860 : Nat := 0
noncomputable def hd.tw17881450898074093203 : Nat := 0
noncomputable def hd.tw17893044597097874663 : Nat := 0
noncomputable def hd.tw17895171251205151618 : Nat := 0
noncomputable def hd.tw17901334829092211166 : Nat := 0
noncomputable def hd.tw17902569758825723728 : Nat := 0
noncomputable def hd.tw17903497710992402801 : Nat := 0
noncomputable def hd.tw17919194246423945575 : Nat := 0
noncomputable def hd.tw17925215291927510665 : Nat := 0
noncomputable def hd.tw17948085552500728524 : Nat := 0
noncomputable def hd.tw17950676927832955104 : Nat := 0
noncomputable def hd.tw17956543221229664512 : Nat := 0
noncomputable def hd.tw17975533764899295144 : Nat := 0
noncomputable def hd.tw17986969038992634876 : Nat := 0
noncomputable def hd.tw17989097746536338734 : Nat := 0
noncomputable def hd.tw18087722134493236510 : Nat := 0
noncomputable def hd.tw18093812233618175256 : Nat := 0
noncomputable def hd.tw18095200977026478895 : Nat := 0
noncomputable def hd.tw18103342009636024947 : Nat := 0
noncomputable def hd.tw18141817174179626276 : Nat := 0
noncomputable def hd.tw18153379244309563313 : Nat := 0
noncomputable def hd.tw18163647496604598072 : Nat := 0
noncomputable def hd.tw18166333605607142505 : Nat := 0
noncomputable def hd.tw18185175575083235020 : Nat := 0
noncomputable def hd.tw18219297243305740317 : Nat := 0
noncomputable def hd.tw18241275227582772068 : Nat := 0
noncomputable def hd.tw18245042118932799458 : Nat := 0
noncomputable def hd.tw18264374347568628810 : Nat := 0
noncomputable def hd.tw18268791191939849864 : Nat := 0
noncomputable def hd.tw18293732401869909652 : Nat := 0
noncomputable def hd.tw18293851220164018083 : Nat := 0
noncomputable def hd.tw18300207936620678264 : Nat := 0
noncomputable def hd.tw18322514126500204803 : Nat := 0
noncomputable def hd.tw18343703819029505601 : Nat := 0
noncomputable def hd.tw18358800413957953924 : Nat := 0
noncomputable def hd.tw1836080755315867724 : Nat := 0
noncomputable def hd.tw1847840615245081061 : Nat := 0
noncomputable def hd.tw1848646778235469078 : Nat := 0
noncomputable def hd.tw185848376630758926 : Nat := 0
noncomputable def hd.tw1865391376527767206 : Nat := 0
noncomputable def hd.tw1882180444382439491 : Nat := 0
noncomputable def hd.tw190519026028168232 : Nat := 0
noncomputable def hd.tw1954109241102656831 : Nat := 0
noncomputable def hd.tw1997569388931296116 : Nat := 0
noncomputable def hd.tw2000490053193787569 : Nat := 0
noncomputable def hd.tw2001351230973187099 : Nat := 0
noncomputable def hd.tw2040990291671593033 : Nat := 0
noncomputable def hd.tw2042292140826266357 : Nat := 0
noncomputable def hd.tw2051048951616859547 : Nat := 0
noncomputable def hd.tw2068664650715991707 : Nat := 0
noncomputable def hd.tw2101469004524951375 : Nat := 0
noncomputable def hd.tw2114630138375439770 : Nat := 0
noncomputable def hd.tw212345690472687942 : Nat := 0
noncomputable def hd.tw2134215046882385847 : Nat := 0
noncomputable def hd.tw2167537188350426706 : Nat := 0
noncomputable def hd.tw2195365466389143174 : Nat := 0
noncomputable def hd.tw2216850387143573719 : Nat := 0
noncomputable def hd.tw2252305205657439004 : Nat := 0
noncomputable def hd.tw22551697357593593 : Nat := 0
noncomputable def hd.tw2274498078352570744 : Nat := 0
noncomputable def hd.tw2284436838669742495 : Nat := 0
noncomputable def hd.tw2295870552580634182 : Nat := 0
noncomputable def hd.tw2304311442786299043 : Nat := 0
noncomputable def hd.tw2323474266016966308 : Nat := 0
noncomputable def hd.tw2329189449893159454 : Nat := 0
noncomputable def hd.tw2386827423013361158 : Nat := 0
noncomputable def hd.tw2391449824757734642 : Nat := 0
noncomputable def hd.tw242841246431481386 : Nat := 0
noncomputable def hd.tw2442259710966052079 : Nat := 0
noncomputable def hd.tw2448417245163862455 : Nat := 0
noncomputable def hd.tw2457190517430149469 : Nat := 0
noncomputable def hd.tw2480057099694739299 : Nat := 0
noncomputable def hd.tw2502866573005156581 : Nat := 0
noncomputable def hd.tw250903467453971090 : Nat := 0
noncomputable def hd.tw257007361410690125 : Nat := 0
noncomputable def hd.tw2603259988358896889 : Nat := 0
noncomputable def hd.tw2608437505485318709 : Nat := 0
noncomputable def hd.tw262745018181394680 : Nat := 0
noncomputable def hd.tw26425463804135960 : Nat := 0
noncomputable def hd.tw2658371784675547251 : Nat := 0
noncomputable def hd.tw2658526732547218105 : Nat := 0
noncomputable def hd.tw2708950531961675432 : Nat := 0
noncomputable def hd.tw2739504486584576224 : Nat := 0
noncomputable def hd.tw2788664435532181463 : Nat := 0
noncomputable def hd.tw2799716289819351777 : Nat := 0
noncomputable def hd.tw280609765759037681 : Nat := 0
noncomputable def hd.tw2808349399557158395 : Nat := 0
noncomputable def hd.tw2855845756224970109 : Nat := 0
noncomputable def hd.tw2859021708956892586 : Nat := 0
noncomputable def hd.tw2867327485932766208 : Nat := 0
noncomputable def hd.tw2887051446865420828 : Nat := 0
noncomputable def hd.tw2951005344575393816 : Nat := 0
noncomputable def hd.tw2999033326186475339 : Nat := 0
noncomputable def hd.tw3008623586974134963 : Nat := 0
noncomputable def hd.tw3044193314922437478 : Nat := 0
noncomputable def hd.tw307737655149646647 : Nat := 0
noncomputable def hd.tw3085183777334472315 : Nat := 0
noncomputable def hd.tw3109861748172591687 : Nat := 0
noncomputable def hd.tw313027258313007627 : Nat := 0
noncomputable def hd.tw3155544918168251483 : Nat := 0
noncomputable def hd.tw3173010612589774626 : Nat := 0
noncomputable def hd.tw3182187488490625086 : Nat := 0
noncomputable def hd.tw3196399650302076718 : Nat := 0
noncomputable def hd.tw3219085151875037572 : Nat := 0
noncomputable def hd.tw3229955645248102723 : Nat := 0
noncomputable def hd.tw3259873300814134281 : Nat := 0
noncomputable def hd.tw3350844169311001129 : Nat := 0
noncomputable def hd.tw3350930974749635488 : Nat := 0
noncomputable def hd.tw3381375190539634487 : Nat := 0
noncomputable def hd.tw3386092968808520798 : Nat := 0
noncomputable def hd.tw3404104791013757517 : Nat := 0
noncomputable def hd.tw3419581819265744254 : Nat := 0
noncomputable def hd.tw3429492842335990350 : Nat := 0
noncomputable def hd.tw3434918251397683217 : Nat := 0
noncomputable def hd.tw3437686538108195901 : Nat := 0
noncomputable def hd.tw3442329435671937591 : Nat := 0
noncomputable def hd.tw3443669649825651883 : Nat := 0
noncomputable def hd.tw3451239065008710300 : Nat := 0
noncomputable def hd.tw3452082135128663414 : Nat := 0
noncomputable def hd.tw3480954088277226078 : Nat := 0
noncomputable def hd.tw3484992998616243462 : Nat := 0
noncomputable def hd.tw3496965988886986938 : Nat := 0
noncomputable def hd.tw3513125359445811510 : Nat := 0
noncomputable def hd.tw3571134770919094901 : Nat := 0
noncomputable def hd.tw3608708970678896270 : Nat := 0
noncomputable def hd.tw3646829019195819677 : Nat := 0
noncomputable def hd.tw3673020696563887462 : Nat := 0
noncomputable def hd.tw368366308016060594 : Nat := 0
noncomputable def hd.tw3694398316872202419 : Nat := 0
noncomputable def hd.tw3704167492566942397 : Nat := 0
noncomputable def hd.tw3722166409189360004 : Nat := 0
noncomputable def hd.tw3759623122121258479 : Nat := 0
noncomputable def hd.tw3789350110615891812 : Nat := 0
noncomputable def hd.tw3828038474966422129 : Nat := 0
noncomputable def hd.tw3876449026389394717 : Nat := 0
noncomputable def hd.tw3878383114103592795 : Nat := 0
noncomputable def hd.tw3915529967508079626 : Nat := 0
noncomputable def hd.tw3919010098100093602 : Nat := 0
noncomputable def hd.tw3920623390966001496 : Nat := 0
noncomputable def hd.tw3922637787740509324 : Nat := 0
noncomputable def hd.tw3941438180925939637 : Nat := 0
noncomputable def hd.tw4021928978595405253 : Nat := 0
noncomputable def hd.tw4065347644161347641 : Nat := 0
noncomputable def hd.tw4068527845204499245 : Nat := 0
noncomputable def hd.tw4086058157674990017 : Nat := 0
noncomputable def hd.tw4091639524402994376 : Nat := 0
noncomputable def hd.tw4111692666942324129 : Nat := 0
noncomputable def hd.tw4115565904173853331 : Nat := 0
noncomputable def hd.tw4138081844389336918 : Nat := 0
noncomputable def hd.tw4172343393113369950 : Nat := 0
noncomputable def hd.tw4182648748547736412 : Nat := 0
noncomputable def hd.tw4194723162650851015 : Nat := 0
noncomputable def hd.tw4225703048834024713 : Nat := 0
noncomputable def hd.tw4272726840584523970 : Nat := 0
noncomputable def hd.tw4282304852377368616 : Nat := 0
noncomputable def hd.tw4282359134580295075 : Nat := 0
noncomputable def hd.tw4292457097857839397 : Nat := 0
noncomputable def hd.tw4297731678662094536 : Nat := 0
noncomputable def hd.tw4315991029959535628 : Nat := 0
noncomputable def hd.tw4360684699965382250 : Nat := 0
noncomputable def hd.tw4363365295628954845 : Nat := 0
noncomputable def hd.tw4367231431732253908 : Nat := 0
noncomputable def hd.tw4367455430839740993 : Nat := 0
noncomputable def hd.tw4383666589626881386 : Nat := 0
noncomputable def hd.tw4402604601214628906 : Nat := 0
noncomputable def hd.tw442638132926106271 : Nat := 0
noncomputable def hd.tw4449123307109862055 : Nat := 0
noncomputable def hd.tw4478166936697009375 : Nat := 0
noncomputable def hd.tw4478177076189095293 : Nat := 0
noncomputable def hd.tw4478964076566166474 : Nat := 0
noncomputable def hd.tw4494801613693538912 : Nat := 0
noncomputable def hd.tw4523669819894539328 : Nat := 0
noncomputable def hd.tw454730354438681185 : Nat := 0
noncomputable def hd.tw461538923250603899 : Nat := 0
noncomputable def hd.tw4642405928176397000 : Nat := 0
noncomputable def hd.tw4643362625855044894 : Nat := 0
noncomputable def hd.tw464777395874653626 : Nat := 0
noncomputable def hd.tw4654797750381630734 : Nat := 0
noncomputable def hd.tw4702841417184801058 : Nat := 0
noncomputable def hd.tw4725425184044842548 : Nat := 0
noncomputable def hd.tw4768578896829404305 : Nat := 0
noncomputable def hd.tw4788038989552484473 : Nat := 0
noncomputable def hd.tw4817003022231809500 : Nat := 0
noncomputable def hd.tw4819202231147424091 : Nat := 0
noncomputable def hd.tw4833718069199227053 : Nat := 0
noncomputable def hd.tw4851647983119433812 : Nat := 0
noncomputable def hd.tw4856431653887292112 : Nat := 0
noncomputable def hd.tw4870687313549177768 : Nat := 0
noncomputable def hd.tw4971549296188076032 : Nat := 0
noncomputable def hd.tw4990156530697904881 : Nat := 0
noncomputable def hd.tw4993660671451451078 : Nat := 0
noncomputable def hd.tw5009564483982726761 : Nat := 0
noncomputable def hd.tw5010264101278932077 : Nat := 0
noncomputable def hd.tw5054737718236178183 : Nat := 0
noncomputable def hd.tw5130813555471234732 : Nat := 0
noncomputable def hd.tw5148922909946612681 : Nat := 0
noncomputable def hd.tw5167245352685981253 : Nat := 0
noncomputable def hd.tw518976864732996251 : Nat := 0
noncomputable def hd.tw5190246844813560578 : Nat := 0
noncomputable def hd.tw519851828213033955 : Nat := 0
noncomputable def hd.tw5238241317806426387 : Nat := 0
noncomputable def hd.tw5245234834050458271 : Nat := 0
noncomputable def hd.tw5247051413645994129 : Nat := 0
noncomputable def hd.tw526207354791536317 : Nat := 0
noncomputable def hd.tw5278057926702712004 : Nat := 0
noncomputable def hd.tw5282504435634884242 : Nat := 0
noncomputable def hd.tw5290942561588533566 : Nat := 0
noncomputable def hd.tw5292301768408028288 : Nat := 0
noncomputable def hd.tw5318216170032084099 : Nat := 0
noncomputable def hd.tw5343241284826551009 : Nat := 0
noncomputable def hd.tw5362516397382645915 : Nat := 0
noncomputable def hd.tw5363564295841288755 : Nat := 0
noncomputable def hd.tw5373601922739893978 : Nat := 0
noncomputable def hd.tw5388632664720090651 : Nat := 0
noncomputable def hd.tw541196102884509978 : Nat := 0
noncomputable def hd.tw5433107678231618845 : Nat := 0
noncomputable def hd.tw5464967688985200232 : Nat := 0
noncomputable def hd.tw5486487638281291605 : Nat := 0
noncomputable def hd.tw5505005885091257285 : Nat := 0
noncomputable def hd.tw5505332120971382143 : Nat := 0
noncomputable def hd.tw5511420028821071320 : Nat := 0
noncomputable def hd.tw5513025101015932971 : Nat := 0
noncomputable def hd.tw5535567543195554156 : Nat := 0
noncomputable def hd.tw5549315172176941698 : Nat := 0
noncomputable def hd.tw5562173858411828344 : Nat := 0
noncomputable def hd.tw5592360268479517082 : Nat := 0
noncomputable def hd.tw5608270528595127837 : Nat := 0
noncomputable def hd.tw561391293025646643 : Nat := 0
noncomputable def hd.tw5635641802508607975 : Nat := 0
noncomputable def hd.tw567884609423149705 : Nat := 0
noncomputable def hd.tw5715356086224469760 : Nat := 0
noncomputable def hd.tw5715734110848049390 : Nat := 0
noncomputable def hd.tw5716766192118558609 : Nat := 0
noncomputable def hd.tw5732804406350252772 : Nat := 0
noncomputable def hd.tw5778430778243502421 : Nat := 0
noncomputable def hd.tw5859118754885311737 : Nat := 0
noncomputable def hd.tw5899666649113621702 : Nat := 0
noncomputable def hd.tw5902613922787404954 : Nat := 0
noncomputable def hd.tw5927567313105069670 : Nat := 0
noncomputable def hd.tw5961118342813265553 : Nat := 0
noncomputable def hd.tw5976792059365374437 : Nat := 0
noncomputable def hd.tw5978321128707920903 : Nat := 0
noncomputable def hd.tw5983496337302601536 : Nat := 0
noncomputable def hd.tw5987830557187376847 : Nat := 0
noncomputable def hd.tw6038821095411175016 : Nat := 0
noncomputable def hd.tw6046454685291232161 : Nat := 0
noncomputable def hd.tw6060742912462422084 : Nat := 0
noncomputable def hd.tw6079173187612997037 : Nat := 0
noncomputable def hd.tw6082411064634330575 : Nat := 0
noncomputable def hd.tw6123773746684550334 : Nat := 0
noncomputable def hd.tw6140570298594658328 : Nat := 0
noncomputable def hd.tw6164396464334811476 : Nat := 0
noncomputable def hd.tw6186238094035137676 : Nat := 0
noncomputable def hd.tw6219127543313455271 : Nat := 0
noncomputable def hd.tw6264232113106981867 : Nat := 0
noncomputable def hd.tw6276725880618359904 : Nat := 0
noncomputable def hd.tw6291416237084387574 : Nat := 0
noncomputable def hd.tw6293948785866598258 : Nat := 0
noncomputable def hd.tw6305734824756694309 : Nat := 0
noncomputable def hd.tw6308581086252854402 : Nat := 0
noncomputable def hd.tw6320253292602491972 : Nat := 0
noncomputable def hd.tw6394381022753523788 : Nat := 0
noncomputable def hd.tw6407587892757256292 : Nat := 0
noncomputable def hd.tw6411954120941647267 : Nat := 0
noncomputable def hd.tw6423634429210846174 : Nat := 0
noncomputable def hd.tw6449127861642672459 : Nat := 0
noncomputable def hd.tw6482722132109649516 : Nat := 0
noncomputable def hd.tw6528754448969337418 : Nat := 0
noncomputable def hd.tw6547078798241139092 : Nat := 0
noncomputable def hd.tw6551450704038468237 : Nat := 0
noncomputable def hd.tw6555240042291301478 : Nat := 0
noncomputable def hd.tw656455966557771466 : Nat := 0
noncomputable def hd.tw6578402527460240241 : Nat := 0
noncomputable def hd.tw6598312636042714100 : Nat := 0
noncomputable def hd.tw6615017456252778612 : Nat := 0
noncomputable def hd.tw6615107907471364465 : Nat := 0
noncomputable def hd.tw6619715349090391383 : Nat := 0
noncomputable def hd.tw6627881031435992008 : Nat := 0
noncomputable def hd.tw663384727985864361 : Nat := 0
noncomputable def hd.tw6636792957720756321 : Nat := 0
noncomputable def hd.tw6683769817339685419 : Nat := 0
noncomputable def hd.tw6755925336976613232 : Nat := 0
noncomputable def hd.tw6759412095888398321 : Nat := 0
noncomputable def hd.tw6761669909254768831 : Nat := 0
noncomputable def hd.tw6767318904944593275 : Nat := 0
noncomputable def hd.tw678209747344391502 : Nat := 0
noncomputable def hd.tw6785817131721698500 : Nat := 0
noncomputable def hd.tw6804821044290156842 : Nat := 0
noncomputable def hd.tw6818987989461384207 : Nat := 0
noncomputable def hd.tw6819123309680001836 : Nat := 0
noncomputable def hd.tw6820862383352777685 : Nat := 0
noncomputable def hd.tw6830512106363814048 : Nat := 0
noncomputable def hd.tw6838551448383532254 : Nat := 0
noncomputable def hd.tw6879831473291441079 : Nat := 0
noncomputable def hd.tw6898005170327248138 : Nat := 0
noncomputable def hd.tw6906073325868019850 : Nat := 0
noncomputable def hd.tw6931407450589930559 : Nat := 0
noncomputable def hd.tw6957150274394394060 : Nat := 0
noncomputable def hd.tw6965799899956892507 : Nat := 0
noncomputable def hd.tw6982297934935202809 : Nat := 0
noncomputable def hd.tw6990203504111849199 : Nat := 0
noncomputable def hd.tw6998783941825042932 : Nat := 0
noncomputable def hd.tw7006195865600381663 : Nat := 0
noncomputable def hd.tw701333769924781912 : Nat := 0
noncomputable def hd.tw701787995468756871 : Nat := 0
noncomputable def hd.tw7023726343779634624 : Nat := 0
noncomputable def hd.tw7028611270464810887 : Nat := 0
noncomputable def hd.tw7031273417212677730 : Nat := 0
noncomputable def hd.tw7068711184596962023 : Nat := 0
noncomputable def hd.tw7080932558258925280 : Nat := 0
noncomputable def hd.tw7082855905992002993 : Nat := 0
noncomputable def hd.tw7085514621470718492 : Nat := 0
noncomputable def hd.tw7120233287515763914 : Nat := 0
noncomputable def hd.tw7152984921513172624 : Nat := 0
noncomputable def hd.tw7174315439194531881 : Nat := 0
noncomputable def hd.tw7261450039545342454 : Nat := 0
noncomputable def hd.tw728884934406724761 : Nat := 0
noncomputable def hd.tw7289634563603522867 : Nat := 0
noncomputable def hd.tw7292484366425897655 : Nat := 0
noncomputable def hd.tw7296583596125217682 : Nat := 0
noncomputable def hd.tw7317836474542784337 : Nat := 0
noncomputable def hd.tw7339039647409124788 : Nat := 0
noncomputable def hd.tw7354087734392854552 : Nat := 0
noncomputable def hd.tw7355570028127101125 : Nat := 0
noncomputable def hd.tw7369741819223213686 : Nat := 0
noncomputable def hd.tw7372000682148998216 : Nat := 0
noncomputable def hd.tw7379015992945566340 : Nat := 0
noncomputable def hd.tw7382370116671421104 : Nat := 0
noncomputable def hd.tw7404318563284646012 : Nat := 0
noncomputable def hd.tw740920337575284248 : Nat := 0
noncomputable def hd.tw7492773218913965947 : Nat := 0
noncomputable def hd.tw7494724483528729301 : Nat := 0
noncomputable def hd.tw7510230149288206974 : Nat := 0
noncomputable def hd.tw7512474625130614241 : Nat := 0
noncomputable def hd.tw7523672394736509286 : Nat := 0
noncomputable def hd.tw7525542149764818722 : Nat := 0
noncomputable def hd.tw7526368328331116154 : Nat := 0
noncomputable def hd.tw7540655947842036084 : Nat := 0
noncomputable def hd.tw7540741092611519060 : Nat := 0
noncomputable def hd.tw7541792107247259296 : Nat := 0
noncomputable def hd.tw7578210074245671484 : Nat := 0
noncomputable def hd.tw7598622570094877466 : Nat := 0
noncomputable def hd.tw7601839278035580522 : Nat := 0
noncomputable def hd.tw7610815399733428385 : Nat := 0
noncomputable def hd.tw7640094616464845771 : Nat := 0
noncomputable def hd.tw7654286748164834634 : Nat := 0
noncomputable def hd.tw7676003278276379012 : Nat := 0
noncomputable def hd.tw7698358502638924378 : Nat := 0
noncomputable def hd.tw7712595579559962911 : Nat := 0
noncomputable def hd.tw7721951785955056133 : Nat := 0
noncomputable def hd.tw7746578258024575070 : Nat := 0
noncomputable def hd.tw7752569895197466512 : Nat := 0
noncomputable def hd.tw7752767780024739350 : Nat := 0
noncomputable def hd.tw7754304195085646258 : Nat := 0
noncomputable def hd.tw7763873220885509757 : Nat := 0
noncomputable def hd.tw7792395482447073224 : Nat := 0
noncomputable def hd.tw7793673504863384051 : Nat := 0
noncomputable def hd.tw7854228177987924090 : Nat := 0
noncomputable def hd.tw7880807054014371918 : Nat := 0
noncomputable def hd.tw7914949630228597729 : Nat := 0
noncomputable def hd.tw7927469264209771579 : Nat := 0
noncomputable def hd.tw8004679753235328684 : Nat := 0
noncomputable def hd.tw8015326511298524721 : Nat := 0
noncomputable def hd.tw8044012406986999415 : Nat := 0
noncomputable def hd.tw8047900516022102942 : Nat := 0
noncomputable def hd.tw8053944837975664402 : Nat := 0
noncomputable def hd.tw8068729725432388964 : Nat := 0
noncomputable def hd.tw8112040973832200146 : Nat := 0
noncomputable def hd.tw8134915037123179040 : Nat := 0
noncomputable def hd.tw8184699220007379433 : Nat := 0
noncomputable def hd.tw8191903926673212241 : Nat := 0
noncomputable def hd.tw8210421348078903774 : Nat := 0
noncomputable def hd.tw8226494294326810461 : Nat := 0
noncomputable def hd.tw8228950375871286339 : Nat := 0
noncomputable def hd.tw8242931771332617035 : Nat := 0
noncomputable def hd.tw8244733829118024811 : Nat := 0
noncomputable def hd.tw825126770350376351 : Nat := 0
noncomputable def hd.tw8271738721435924559 : Nat := 0
noncomputable def hd.tw8273930003744585626 : Nat := 0
noncomputable def hd.tw8312999807965096350 : Nat := 0
noncomputable def hd.tw833173182276230429 : Nat := 0
noncomputable def hd.tw8356816923877370021 : Nat := 0
noncomputable def hd.tw8381844023166312768 : Nat := 0
noncomputable def hd.tw8428860471423672150 : Nat := 0
noncomputable def hd.tw8457440626546761165 : Nat := 0
noncomputable def hd.tw8516288146210602744 : Nat := 0
noncomputable def hd.tw8538877666451538035 : Nat := 0
noncomputable def hd.tw8545014587354053640 : Nat := 0
noncomputable def hd.tw8587404781116728655 : Nat := 0
noncomputable def hd.tw8589211134812392127 : Nat := 0
noncomputable def hd.tw8609351116199087170 : Nat := 0
noncomputable def hd.tw8611517500685700142 : Nat := 0
noncomputable def hd.tw8652628183442184457 : Nat := 0
noncomputable def hd.tw8664936974563722654 : Nat := 0
noncomputable def hd.tw8671608845466749128 : Nat := 0
noncomputable def hd.tw8683856772340465682 : Nat := 0
noncomputable def hd.tw8716120427605611371 : Nat := 0
noncomputable def hd.tw8727321023445011275 : Nat := 0
noncomputable def hd.tw8735263284916673568 : Nat := 0
noncomputable def hd.tw876933089483189297 : Nat := 0
noncomputable def hd.tw8770205317985620760 : Nat := 0
noncomputable def hd.tw8770659054964912022 : Nat := 0
noncomputable def hd.tw8789358453043137523 : Nat := 0
noncomputable def hd.tw8801323125487838256 : Nat := 0
noncomputable def hd.tw8879563391730754479 : Nat := 0
noncomputable def hd.tw8977307856219701671 : Nat := 0
noncomputable def hd.tw8990313861142287110 : Nat := 0
noncomputable def hd.tw9073681462420916055 : Nat := 0
noncomputable def hd.tw9077708301081682751 : Nat := 0
noncomputable def hd.tw9087110039335098043 : Nat := 0
noncomputable def hd.tw9132557439983319658 : Nat := 0
noncomputable def hd.tw9155422001095189878 : Nat := 0
noncomputable def hd.tw9170477692918782315 : Nat := 0
noncomputable def hd.tw9184186324627900627 : Nat := 0
noncomputable def hd.tw920214292312260371 : Nat := 0
noncomputable def hd.tw9228397985900620932 : Nat := 0
noncomputable def hd.tw9244321171653502345 : Nat := 0
noncomputable def hd.tw9258712216579463092 : Nat := 0
noncomputable def hd.tw9271970288684553227 : Nat := 0
noncomputable def hd.tw9277588360372424766 : Nat := 0
noncomputable def hd.tw9298403506768410418 : Nat := 0
noncomputable def hd.tw9325612240067072397 : Nat := 0
noncomputable def hd.tw9330943631129107780 : Nat := 0
noncomputable def hd.tw9345676750909349944 : Nat := 0
noncomputable def hd.tw9345929723534960622 : Nat := 0
noncomputable def hd.tw9386895884608548742 : Nat := 0
noncomputable def hd.tw9390866547671247325 : Nat := 0
noncomputable def hd.tw9398405308114057262 : Nat := 0
noncomputable def hd.tw940617070666608080 : Nat := 0
noncomputable def hd.tw9406673726873002282 : Nat := 0
noncomputable def hd.tw9420132969298855359 : Nat := 0
noncomputable def hd.tw9421340871869096474 : Nat := 0
noncomputable def hd.tw9427301549700849589 : Nat := 0
noncomputable def hd.tw9429285754427346401 : Nat := 0
noncomputable def hd.tw9430268157657104642 : Nat := 0
noncomputable def hd.tw9449672872311958731 : Nat := 0
noncomputable def hd.tw9459050058782445324 : Nat := 0
noncomputable def hd.tw9499510787657705874 : Nat := 0
noncomputable def hd.tw9502423252354950708 : Nat := 0
noncomputable def hd.tw9519852930888014470 : Nat := 0
noncomputable def hd.tw9533747618267967006 : Nat := 0
noncomputable def hd.tw9555612238305686254 : Nat := 0
noncomputable def hd.tw9557236495431379559 : Nat := 0
noncomputable def hd.tw9566141503761928105 : Nat := 0
noncomputable def hd.tw9577689765879766989 : Nat := 0
noncomputable def hd.tw960944832710211464 : Nat := 0
noncomputable def hd.tw9627899436633539337 : Nat := 0
noncomputable def hd.tw9641152695372364146 : Nat := 0
noncomputable def hd.tw9657781627882305391 : Nat := 0
noncomputable def hd.tw9673543361469618366 : Nat := 0
noncomputable def hd.tw9702936160620672325 : Nat := 0
noncomputable def hd.tw9719896912496429819 : Nat := 0
noncomputable def hd.tw9741134391959003819 : Nat := 0
noncomputable def hd.tw9748044761591592747 : Nat := 0
noncomputable def hd.tw9763420282994701918 : Nat := 0
noncomputable def hd.tw9842699097658496709 : Nat := 0
noncomputable def hd.tw991583007596301734 : Nat := 0
noncomputable def hd.tw9942979801534940709 : Nat := 0
noncomputable def hd.tw9960721518486171458 : Nat := 0
noncomputable def hd.tw9990345226319884068 : Nat := 0
end Mine
namespace Mine
section
local macro_rules | `(tactic| o_head $H) => `(tactic| skip)
theorem kx : True := by
  have h : (OpenLaw.row PySem.Challenge.rw_np0108_01).Holds → (OpenLaw.row PySem.Challenge.rw_np0108_01).Holds := by (intro x; k_head; exact x)
  trivial
end
end Mine
namespace Mine
-- what stands around a call: the env on the top
noncomputable abbrev kTop (dp un : Nat) (gd : Option (List Code)) (env : Env) (outer : List Env) : Around := { handled := none, depth := dp, frames := some (env :: outer), guards := gd, units := un }
-- a contract of a def that turns nothing that stood before: at its address, under a premise on the heap, with room for frames and units; what comes back
noncomputable def CtP (K : Params → Frag) (w : World) (f : Addr) (Pre : Heap → Prop) (dd uu : Nat) (vs : List Value) (Post : Heap → Heap → Value → Prop) : Prop :=
  ∀ (p : Program) (loose : List Str) (mean : ExcName → Option Value) (mg mb : Str → Option Value)
    (dp un : Nat) (gd : Option (List Code)) (env : Env) (outer : List Env) (A₀ : Around) (base h₀ : Heap) (L : Addr) (m : Str → Option Value) (sh : Heap) (sg : Array GenState) (sd : Drawn) (st : Nat) (so : OsState) (Q E : Value → Shared → Prop),
    Below A₀ base outer h₀ → Fr h₀ L sh m → (K w.params).In h₀ → Top p loose mean mg mb h₀ → env.frame = some L → env.scope.kind = .function →
    Pre sh → dp + dd < recursionLimit → un + uu < cLine →
    (∀ (v : Value) (h' : Heap) (tk' : Nat), sh.StaysIn h' → Post sh h' v → Q v ⟨h', sg, sd, tk', so⟩) →
    wpAny (model PySem.Challenge.rw_np0108_01.row.prog w) (kTop dp un gd env outer) (call (.ref f) vs) Q E ⟨sh, sg, sd, st, so⟩

theorem CtP.use {K : Params → Frag} {w : World} {f : Addr} {Pre : Heap → Prop} {dd uu : Nat} {vs : List Value} {Post : Heap → Heap → Value → Prop}
    {p : Program} {loose : List Str} {mean : ExcName → Option Value} {mg mb : Str → Option Value}
    {dp un : Nat} {gd : Option (List Code)} {env : Env} {outer : List Env} {A₀ : Around} {base h₀ : Heap} {L : Addr} {m : Str → Option Value} {sh : Heap} {sg : Array GenState} {sd : Drawn} {st : Nat} {so : OsState} {Q E : Value → Shared → Prop} {news : List (Addr × Obj)}
    (C : CtP K w f Pre dd uu vs Post) (B : Below A₀ base outer h₀) (F : Fr h₀ L sh m) (X : (K w.params).In h₀) (N : News h₀ L sh news) (T : Top p loose mean mg mb h₀) (hf : env.frame = some L) (hk : env.scope.kind = .function)
    (hp : Pre sh) (hdp : dp + dd < recursionLimit) (hu : un + uu < cLine)
    (ret : ∀ (v : Value) (h' : Heap) (tk' : Nat), sh.StaysIn h' → Fr h₀ L h' m → News h₀ L h' news → (∀ q ∈ news, q.1 < sh.objs.size) → L < sh.objs.size → Post sh h' v → Q v ⟨h', sg, sd, tk', so⟩) :
    wpAny (model PySem.Challenge.rw_np0108_01.row.prog w) (kTop dp un gd env outer) (call (.ref f) vs) Q E ⟨sh, sg, sd, st, so⟩ :=
  C _ _ _ _ _ _ _ _ _ _ _ _ _ _ _ _ _ _ _ _ _ _ B F X T hf hk hp hdp hu fun v h' tk' hs hP => ret v h' tk' hs (F.keeps hs) (N.grown hs) (fun q hq => Heap.lt_size (N q hq).1) F.ns.lt hP

-- posts: an int, a bool, None
noncomputable def PI (x : Int) (_ _ : Heap) (v : Value) : Prop := ∃ t, v = .int x t
noncomputable def PB (x : Bool) (_ _ : Heap) (v : Value) : Prop := v = .bool x
theorem PI.mk {x y : Int} {t : Tok} {h h' : Heap} (e : y = x) : PI x h h' (.int y t) := ⟨t, by rw [e]⟩
theorem PB.mk {x y : Bool} {h h' : Heap} (e : y = x) : PB x h h' (.bool y) := by rw [e]; rfl
theorem PI.out {x : Int} {v : Value} {h h' : Heap} (e : PI x h h' v) : ∃ t, v = .int x t := e
theorem PB.out {x : Bool} {v : Value} {h h' : Heap} (e : PB x h h' v) : v = .bool x := e
noncomputable def NoPre (_ : Heap) : Prop := True

-- a contract of a def: it may turn the ledger objects 'own' and nothing else that stood before; Pre holds of what stands beside them
noncomputable def CtM (K : Params → Frag) (w : World) (f : Addr) (Pre : Heap → Prop) (dd uu : Nat) (vs : List Value) (own : List (Addr × Obj)) (Post : Heap → Heap → Value → Prop) : Prop :=
  ∀ (p : Program) (loose : List Str) (mean : ExcName → Option Value) (mg mb : Str → Option Value)
    (dp un : Nat) (gd : Option (List Code)) (env : Env) (outer : List Env) (A₀ : Around) (base h₀ : Heap) (L : Addr) (m : Str → Option Value) (sh : Heap) (sg : Array GenState) (sd : Drawn) (st : Nat) (so : OsState) (Q E : Value → Shared → Prop),
    Below A₀ base outer h₀ → Fr h₀ L sh m → (K w.params).In h₀ → Top p loose mean mg mb h₀ → env.frame = some L → env.scope.kind = .function → News h₀ L sh own →
    (∀ g, GSub sh g (own.map (·.1)) → Pre g) → dp + dd < recursionLimit → un + uu < cLine →
    (∀ (v : Value) (h' : Heap) (tk' : Nat), GSub sh h' (own.map (·.1)) → Post sh h' v → Q v ⟨h', sg, sd, tk', so⟩) →
    wpAny (model PySem.Challenge.rw_np0108_01.row.prog w) (kTop dp un gd env outer) (call (.ref f) vs) Q E ⟨sh, sg, sd, st, so⟩

theorem CtM.use {K : Params → Frag} {w : World} {f : Addr} {Pre : Heap → Prop} {dd uu : Nat} {vs : List Value} {own : List (Addr × Obj)} {Post : Heap → Heap → Value → Prop}
    {p : Program} {loose : List Str} {mean : ExcName → Option Value} {mg mb : Str → Option Value}
    {dp un : Nat} {gd : Option (List Code)} {env : Env} {outer : List Env} {A₀ : Around} {base h₀ : Heap} {L : Addr} {m : Str → Option Value} {sh : Heap} {sg : Array GenState} {sd : Drawn} {st : Nat} {so : OsState} {Q E : Value → Shared → Prop} {news : List (Addr × Obj)} (rest : List (Addr × Obj))
    (C : CtM K w f Pre dd uu vs own Post) (B : Below A₀ base outer h₀) (F : Fr h₀ L sh m) (X : (K w.params).In h₀) (N : News h₀ L sh news) (T : Top p loose mean mg mb h₀) (hf : env.frame = some L) (hk : env.scope.kind = .function)
    (ho : ∀ q ∈ own, q ∈ news) (hr : ∀ q ∈ rest, q ∈ news) (hoff : ∀ q ∈ rest, ∀ b ∈ own, b.1 ≠ q.1)
    (hp : ∀ g, GSub sh g (own.map (·.1)) → Pre g) (hdp : dp + dd < recursionLimit) (hu : un + uu < cLine)
    (ret : ∀ (v : Value) (h' : Heap) (tk' : Nat), GSub sh h' (own.map (·.1)) → Fr h₀ L h' m → News h₀ L h' rest → (∀ q ∈ own, q.1 ≠ L ∧ h₀.get? q.1 = none) → Post sh h' v → Q v ⟨h', sg, sd, tk', so⟩) :
    wpAny (model PySem.Challenge.rw_np0108_01.row.prog w) (kTop dp un gd env outer) (call (.ref f) vs) Q E ⟨sh, sg, sd, st, so⟩ := by
  have N1 : News h₀ L sh own := fun q hq => N q (ho q hq)
  refine C _ _ _ _ _ _ _ _ _ _ _ _ _ _ _ _ _ _ _ _ _ _ B F X T hf hk N1 hp hdp hu fun v h' tk' G P => ?_
  refine ret v h' tk' G ⟨?_, fun b o e => G b o (F.keep b o e) ?_, F.above⟩ (fun q hq => ⟨G _ _ (N q (hr q hq)).1 ?_, (N q (hr q hq)).2⟩) (fun q hq => (N1 q hq).2) P
  · obtain ⟨oL, a1, a2, hL, a3⟩ := F.ns
    refine ⟨oL, a1, a2, G _ _ hL ?_, a3⟩
    intro hm
    obtain ⟨q, hq, e⟩ := List.mem_map.mp hm
    exact (N1 q hq).2.1 e
  · intro hm
    obtain ⟨q, hq, rfl⟩ := List.mem_map.mp hm
    have := (N1 q hq).2.2; rw [this] at e; cases e
  · intro hm
    obtain ⟨b, hb, e⟩ := List.mem_map.mp hm
    exact hoff q hq b hb e
theorem news_put {h₀ h' : Heap} {L a : Addr} {o : Obj} {rest : List (Addr × Obj)} (N : News h₀ L h' rest) (e : h'.get? a = some o) (hf : a ≠ L ∧ h₀.get? a = none) : News h₀ L h' ((a, o) :: rest) := by
  intro q hq
  rcases List.mem_cons.mp hq with rfl | hq
  · exact ⟨e, hf⟩
  · exact N q hq

theorem stays_of_G {h g : Heap} (G : GSub h g (([] : List (Addr × Obj)).map (·.1))) : h.StaysIn g := fun b o e => G b o e (by simp)
theorem Stays.trans {h h' h'' : Heap} (a : h.StaysIn h') (b : h'.StaysIn h'') : h.StaysIn h'' := fun x o e => b x o (a x o e)

-- the small letter of a code, as the program reckons it
noncomputable def dc (c : Int) : Int := if (65 ≤ c ∧ c ≤ 90) ∨ (192 ≤ c ∧ c ≤ 222 ∧ c ≠ 215) then c + 32 else c

-- a TextRow of the heap: its codes, its first place
noncomputable def ViewIn (h : Heap) (x : Addr) (cs : List Int) (base : Int) : Prop :=
  ∃ (dx l : Addr) (vs : List Value) (n : Nat) (h1 h2 : Int) (t1 t2 tb : Tok),
    h.get? x = some (instObj 626 dx) ∧ h.get? dx = some (dictOf [⟨h1, .str (Str.ofString "codes") t1, .ref l⟩, ⟨h2, .str (Str.ofString "place") t2, .int base tb⟩] n) ∧
    h.IsList l vs.toArray ∧ IntsAre vs cs ∧ cs.length ≤ 1000 ∧ (-1000 < base ∧ base < 1000)
theorem ViewIn.elim {h : Heap} {x : Addr} {cs : List Int} {base : Int} {G : Prop} (v : ViewIn h x cs base) (k : ∀ (dx l : Addr) (vs : List Value) (n : Nat) (h1 h2 : Int) (t1 t2 tb : Tok),
    h.get? x = some (instObj 626 dx) → h.get? dx = some (dictOf [⟨h1, .str (Str.ofString "codes") t1, .ref l⟩, ⟨h2, .str (Str.ofString "place") t2, .int base tb⟩] n) → h.IsList l vs.toArray → IntsAre vs cs → cs.length ≤ 1000 → (-1000 < base ∧ base < 1000) → G) : G := by
  obtain ⟨dx, l, vs, n, h1, h2, t1, t2, tb, a, b, c, d, e, f⟩ := v
  exact k dx l vs n h1 h2 t1 t2 tb a b c d e f
theorem ViewIn.keeps {h h' : Heap} {x : Addr} {cs : List Int} {base : Int} (k : h.StaysIn h') (v : ViewIn h x cs base) : ViewIn h' x cs base := by
  obtain ⟨dx, l, vs, n, h1, h2, t1, t2, tb, a, b, c, d, e, f⟩ := v
  exact ⟨dx, l, vs, n, h1, h2, t1, t2, tb, k _ _ a, k _ _ b, stays_list k c, d, e, f⟩
-- a list of ints of the heap
noncomputable def IntsIn (h : Heap) (l : Addr) (cs : List Int) : Prop := ∃ vs : List Value, h.IsList l vs.toArray ∧ IntsAre vs cs
theorem IntsIn.keeps {h h' : Heap} {l : Addr} {cs : List Int} (k : h.StaysIn h') (v : IntsIn h l cs) : IntsIn h' l cs := by
  obtain ⟨vs, a, b⟩ := v
  exact ⟨vs, stays_list k a, b⟩
-- what stands at a place
noncomputable def codeAt (cs : List Int) (base place : Int) : Int := if base ≤ place ∧ place < base + cs.length then cs.getD (place - base).toNat 0 else -1

section
variable {prog : Program} {w : World} {M : Model} {A : Around} {E : Value → Shared → Prop} {s : Shared} {h₀ h : Heap} {L D l x C dx : Addr} {m : Str → Option Value} {news news' : List (Addr × Obj)} {vs : List Value} {ns : List Int} {n : Nat} {od : Obj} {sl : Array (Option Value)}
theorem InstAt.of_base (F : Fr h₀ L h m) (h1 : h₀.get? x = some (⟨.ref C, some dx, .plain, sl⟩ : Obj)) (h2 : h₀.get? dx = some od) : InstAt h x ⟨.ref C, some dx, .plain, sl⟩ C (some od) := ⟨F.keep _ _ h1, rfl, rfl, F.keep _ _ h2⟩
theorem len_b {Q : Value → Shared → Prop} (F : Fr h₀ L s.heap m) (hl : h₀.IsList l vs.toArray) (hi : IntsAre vs ns) (hz : ns.length ≤ 1000000)
    (h : Q (.int ns.length (s.toks + 1)) { s with toks := s.toks + 1 + 1 }) : wpAny (model prog w) A (call (.builtin "len") [.ref l]) Q E s := by
  have hs : vs.toArray.size = ns.length := by rw [List.size_toArray]; exact hi.length
  refine len_list (hl.at fun o e => F.keep l o e) (by omega) ?_
  rw [hs]; exact h
end
noncomputable abbrev tupOf (its : Array Value) (n : Nat) : Obj := { cls := .type "tuple", data := .seq its n }
-- what a search gives back: None, or a list of one pair
noncomputable def PF (o : Option (Int × Int)) (h h' : Heap) (v : Value) : Prop := match o with
  | none => v = .none
  | some p => ∃ (l t : Addr) (ta tb : Tok) (n1 n2 : Nat), v = .ref l ∧ h'.get? l = some (listOf #[.ref t] n1) ∧ h'.get? t = some (tupOf #[.int p.1 ta, .int p.2 tb] n2) ∧ h.get? t = none ∧ h.get? l = none ∧ t ≠ l
-- the first of a, a + 1 .. (n of them) that f holds at
noncomputable def findUp (f : Int → Bool) (a : Int) : Nat → Option Int
  | 0 => none
  | n + 1 => if f a then some a else findUp f (a + 1) n
theorem findUp_none {f : Int → Bool} : ∀ {n : Nat} {a : Int}, (∀ j : Nat, j < n → f (a + j) = false) → findUp f a n = none
  | 0, _, _ => rfl
  | n + 1, a, h => by
    unfold findUp
    have h0 := h 0 (Nat.zero_lt_succ _)
    rw [show a + ((0 : Nat) : Int) = a by omega] at h0
    rw [h0, if_neg (by simp)]
    exact findUp_none fun j hj => by have := h (j + 1) (Nat.succ_lt_succ hj); rw [show a + ((j + 1 : Nat) : Int) = a + 1 + j by omega] at this; exact this
theorem findUp_some {f : Int → Bool} : ∀ {n i : Nat} {a : Int}, i < n → (∀ j : Nat, j < i → f (a + j) = false) → f (a + i) = true → findUp f a n = some (a + i)
  | 0, _, _, h, _, _ => absurd h (Nat.not_lt_zero _)
  | n + 1, 0, a, _, _, e => by
    unfold findUp
    rw [show a + ((0 : Nat) : Int) = a by omega] at e
    rw [e, if_pos rfl]; simp
  | n + 1, i + 1, a, h, p, e => by
    unfold findUp
    have h0 := p 0 (Nat.zero_lt_succ _)
    rw [show a + ((0 : Nat) : Int) = a by omega] at h0
    rw [h0, if_neg (by simp), findUp_some (i := i) (Nat.lt_of_succ_lt_succ h) (fun j hj => by have := p (j + 1) (Nat.succ_lt_succ hj); rw [show a + ((j + 1 : Nat) : Int) = a + 1 + j by omega] at this; exact this) (by rw [show a + 1 + (i : Int) = a + ((i + 1 : Nat) : Int) by omega]; exact e)]
    congr 1; omega
-- the first of a, a - 1 .. (n of them) that f holds at
noncomputable def findDown (f : Int → Bool) (a : Int) (n : Nat) : Option Int := (findUp (fun x => f (-x)) (-a) n).map (fun x => -x)
theorem findDown_none {f : Int → Bool} {n : Nat} {a : Int} (h : ∀ j : Nat, j < n → f (a - j) = false) : findDown f a n = none := by
  unfold findDown
  rw [findUp_none fun j hj => by rw [show -(-a + (j : Int)) = a - j by omega]; exact h j hj]; rfl
theorem findDown_some {f : Int → Bool} {n i : Nat} {a : Int} (hi : i < n) (h : ∀ j : Nat, j < i → f (a - j) = false) (e : f (a - i) = true) : findDown f a n = some (a - i) := by
  unfold findDown
  rw [findUp_some hi (fun j hj => by rw [show -(-a + (j : Int)) = a - j by omega]; exact h j hj) (by rw [show -(-a + (i : Int)) = a - i by omega]; exact e)]
  simp only [Option.map_some]; congr 1; omega
theorem PF.mk {a b : Int} {h h' g : Heap} {l t L : Addr} {ta tb : Tok} {n1 n2 : Nat} {news : List (Addr × Obj)} (S : h.StaysIn g) (N : News g L h' news) (ml : (l, listOf #[.ref t] n1) ∈ news) (mt : (t, tupOf #[.int a ta, .int b tb] n2) ∈ news) (hne : t ≠ l) :
    PF (some (a, b)) h h' (.ref l) := by
  have fresh : ∀ {x o}, (x, o) ∈ news → h.get? x = none := fun {x o} hm => by
    cases e : h.get? x with
    | none => rfl
    | some o' => have := S _ _ e; rw [N.fresh hm] at this; cases this
  exact ⟨l, t, ta, tb, n1, n2, rfl, N.get ml, N.get mt, fresh mt, fresh ml, hne⟩
section
variable {α : Type} {M : Model} {A : Around} {X : Sem α} {Q : α → Shared → Prop} {E : Value → Shared → Prop} {s : Shared}
-- the ends of a tree named
theorem foldQE (k : let q := Q; let e := E; wpAny M A X q e s) : wpAny M A X Q E s := k
theorem foldQ (k : let q := Q; wpAny M A X q E s) : wpAny M A X Q E s := k
-- a state written out, its tokens forgotten
theorem nrmS {h : Heap} {g : Array GenState} {d : Drawn} {t : Nat} {o : OsState} (e : (⟨h, g, d, t, o⟩ : Shared) = s) (k : ∀ t, wpAny M A X Q E ⟨h, g, d, t, o⟩) : wpAny M A X Q E s := e ▸ k t
end
-- the goal named
theorem foldG {p : Prop} (k : let g := p; g) : p := k
section
variable {M : Model} {A : Around} {E : Value → Shared → Prop} {s : Shared} {env : Env}
theorem execsL {st : Stmt} {rest : List Stmt} {Q : Flow → Shared → Prop} (k : let q : Flow → Shared → Prop := fun f s' => match f with | .next => wpAny M A (execs rest env) Q E s' | f => Q f s'; wpAny M A (exec st env) q E s) : wpAny M A (execs (st :: rest) env) Q E s := wpAny_execs_cons k
end
-- what is named already
noncomputable def Bnd {α : Type} (_ : α) : Prop := True
theorem Bnd.mk {α : Type} {a : α} : Bnd a := trivial
theorem bndN {h₀ h : Heap} {L : Addr} {news : List (Addr × Obj)} (_ : News h₀ L h news) (b : Bnd news) : Bnd news := b
theorem bndF {h₀ h : Heap} {L : Addr} {m : Str → Option Value} (_ : Fr h₀ L h m) (b : Bnd m) : Bnd m := b
-- where it stands, ledgers are named
noncomputable def BnOn : Prop := True
theorem BnOn.mk : BnOn := trivial
-- the name is of that kind in the function's scope
noncomputable def okN (cs : Scope) (x : Str) (k : NameKind) : Bool := decide (cs.kind = .function) && decide (cs.names.lookup x = some k) && !(x == ("__debug__" : Str))
theorem okN.out {cs : Scope} {x : Str} {k : NameKind} (h : okN cs x k = true) : cs.kind = .function ∧ cs.names.lookup x = some k ∧ (x == ("__debug__" : Str)) = false := by
  unfold okN at h
  obtain ⟨h1, h2⟩ := Bool.and_eq_true_iff.mp h
  obtain ⟨h3, h4⟩ := Bool.and_eq_true_iff.mp h1
  exact ⟨of_decide_eq_true h3, of_decide_eq_true h4, by simpa using h2⟩
section
variable {M : Model} {A : Around} {E : Value → Shared → Prop} {s : Shared} {K : Frag} {h₀ : Heap} {L a : Addr} {m mg mb : Str → Option Value} {cn : Str} {cs : Scope} {ccd : Value} {cl : List (Str × Addr)} {p : Program} {loose : List Str} {mean : ExcName → Option Value}
  {x : Str} {pos : Pos} {v : Value} {news : List (Addr × Obj)} {c : Addr} {o : Obj}
theorem name_L {Q : Value → Shared → Prop} (h : Q v s) (ok : okN cs x .local = true := by decide +kernel) (F : Fr h₀ L s.heap m := by k_asm) (hv : m x = some v := by rfl) : wpAny M A (eval (.Name x pos) (envX cn cs L a ccd cl)) Q E s :=
  nameX_L F hv h (okN.out ok).1 (okN.out ok).2.1 (okN.out ok).2.2
theorem name_G {Q : Value → Shared → Prop} (h : Q v s) (ok : okN cs x .globalImplicit = true := by decide +kernel) (F : Fr h₀ L s.heap m := by k_asm) (X : K.In h₀ := by k_asm) (T : TopRead p loose mg mb h₀ := by k_asm) (e : nsIn K mainGlobals x = some (some v) := by k_is) : wpAny M A (eval (.Name x pos) (envX cn cs L a ccd cl)) Q E s :=
  nameX_K F X T e h (okN.out ok).1 (okN.out ok).2.1 (okN.out ok).2.2
theorem name_I {Q : Value → Shared → Prop} (h : Q v s) (ok : okN cs x .globalImplicit = true := by decide +kernel) (F : Fr h₀ L s.heap m := by k_asm) (X : K.In h₀ := by k_asm) (T : TopRead p loose mg mb h₀ := by k_asm) (e : nsIn K mainGlobals x = some none := by k_is) (hv : bootBuiltins x = some v := by boot_fast) (hn : x ≠ "__name__" := by decide) : wpAny M A (eval (.Name x pos) (envX cn cs L a ccd cl)) Q E s :=
  nameX_B F X T e hv hn h (okN.out ok).1 (okN.out ok).2.1 (okN.out ok).2.2
theorem name_C {Q : Value → Shared → Prop} (h : Q v s) (ok : okN cs x .cell = true := by decide +kernel) (N : News h₀ L s.heap news := by k_asm) (hc : cl.lookup x = some c := by rfl) (hm : (c, o) ∈ news := by k_mem) (hd : o.data = .cell (some v) := by k_asm) : wpAny M A (eval (.Name x pos) (envX cn cs L a ccd cl)) Q E s :=
  nameX_C N hc hm hd h (okN.out ok).1 (okN.out ok).2.1 (okN.out ok).2.2
theorem store_L {Q : Unit → Shared → Prop} {h : Heap} {g : Array GenState} {d : PySem.Drawn} {t : Nat} {so : OsState} (k : ∀ h', (let mm : Str → Option Value := fun y => if y = x then some v else m y; Fr h₀ L h' mm → News h₀ L h' news → ∀ t, Q () ⟨h', g, d, t, so⟩))
    (ok : okN cs x .local = true := by decide +kernel) (F : Fr h₀ L h m := by k_asm) (N : News h₀ L h news := by k_asm) : wpAny M A (storeName (envX cn cs L a ccd cl) x v) Q E ⟨h, g, d, t, so⟩ :=
  storeX_L (s := ⟨h, g, d, t, so⟩) F N (fun h' F' N' => k h' F' N' _) (okN.out ok).1 (okN.out ok).2.1
end
section
variable {M : Model} {A : Around} {E : Value → Shared → Prop} {s : Shared} {K : Frag} {h₀ : Heap} {L : Addr} {m : Str → Option Value} {f : Value} {first : List Value} {pos : Pos} {env : Env} {Q : Value → Shared → Prop}
theorem callWith_K0F (h : wpAny M A (call f (first ++ [])) Q E s) (F : Fr h₀ L s.heap m := by k_asm) (X : K.In h₀ := by k_asm) (hk : keepIn K f = true := by k_is) : wpAny M A (callWith pos f first (backTo pos (starEach [] env)) []) Q E s :=
  callWith_K0 (Frag.In.keeps X (Fr.keep F)) hk h
end
theorem kin_of {K : Frag} {h₀ h : Heap} {L : Addr} {m : Str → Option Value} (F : Fr h₀ L h m) (X : K.In h₀) : K.In h := Frag.In.keeps X (Fr.keep F)
-- room
theorem room1 {a b j k K N : Nat} (h : a + K < N := by with_reducible assumption) (e : b = a + j := by exact rfl) (le : Nat.ble (j + k) K = true := by exact rfl) : b + k < N := by have := Nat.le_of_ble_eq_true le; omega
theorem room2 {a b i j k K N : Nat} (h : a + K < N := by with_reducible assumption) (e : b = a + i + j := by exact rfl) (le : Nat.ble (i + j + k) K = true := by exact rfl) : b + k < N := by have := Nat.le_of_ble_eq_true le; omega
theorem room3 {a b i j l k K N : Nat} (h : a + K < N := by with_reducible assumption) (e : b = a + i + j + l := by exact rfl) (le : Nat.ble (i + j + l + k) K = true := by exact rfl) : b + k < N := by have := Nat.le_of_ble_eq_true le; omega
theorem room0 {a k K N : Nat} (h : a + K < N := by with_reducible assumption) (le : Nat.ble k K = true := by exact rfl) : a + k < N := by have := Nat.le_of_ble_eq_true le; omega
theorem AllLt.ne {d x : Nat} {o : Obj} : ∀ {l : List (Addr × Obj)}, AllLt d l → (x, o) ∈ l → @Ne Nat x d
  | _ :: _, h, .head _ => Nat.ne_of_lt h.1
  | _ :: _, h, .tail _ m => AllLt.ne h.2 m
theorem AllLt.allNe {d : Nat} {l : List (Addr × Obj)} (h : AllLt d l) : ∀ p ∈ l, @Ne Nat p.1 d := fun _ hp => AllLt.ne h hp
theorem AllLt.ne2 {d x y : Nat} {o : Obj} {l : List (Addr × Obj)} (l2 : @LT.lt Nat _ d x) (h : AllLt d l) (m : (y, o) ∈ l) : @Ne Nat y x := by
  induction l with
  | nil => cases m
  | cons p r ih =>
    cases m with
    | head _ => exact Nat.ne_of_lt (Nat.lt_trans h.1 l2)
    | tail _ m => exact ih h.2 m
section
variable {prog : Program} {w : World} {A : Around} {E : Value → Shared → Prop} {h : Heap} {g : Array GenState} {d : PySem.Drawn} {t : Nat} {so : OsState} {K : Frag} {h₀ : Heap} {L a C o f : Addr} {ox : Obj} {m : Str → Option Value} {cn : Str} {cs : Scope} {ccd : Value} {cl : List (Str × Addr)} {pos xp apos : Pos} {x name : Str} {es : List Expr} {vs : List Value} {v : Value} {attr : Option Value} {ds : List DictEntry} {n : Nat} {Q : Value → Shared → Prop}
theorem AttrL (k : ∀ t, Q v ⟨h, g, d, t, so⟩) (ok : okN cs x .local = true := by decide +kernel) (F : Fr h₀ L h m := by k_asm) (hx : m x = some (.ref o) := by rfl) (X : K.In h₀ := by k_asm) (I : PySem.W.InstAt h o ox C (some (dictOf ds n)) := by k_inst) (hg : plainGet K C name = true := by k_is) (hh : hasDictIn K C = true := by k_is)
    (ha : findIn K (.ref C) name = some attr := by k_is) (hn : noGet K attr = true := by k_is) (hl : getL name ds = some (some v) := by k_get) (hv : handedIn v = true := by k_handed) :
    wpAny (model prog w) A (eval (.Attribute (.Name x xp) name pos) (envX cn cs L a ccd cl)) Q E ⟨h, g, d, t, so⟩ :=
  Attribute_Name_ (name_L (s := ⟨h, g, d, t, so⟩) (get_own (s := ⟨h, g, d, t, so⟩) F X I hg hh ha hn hl hv (k _)) ok F hx)
theorem get_ownA {expr : Bool} (k : ∀ t, Q v ⟨h, g, d, t, so⟩) (F : Fr h₀ L h m := by k_asm) (X : K.In h₀ := by k_asm) (I : PySem.W.InstAt h o ox C (some (dictOf ds n)) := by k_inst) (hg : plainGet K C name = true := by k_is) (hh : hasDictIn K C = true := by k_is)
    (ha : findIn K (.ref C) name = some attr := by k_is) (hn : noGet K attr = true := by k_is) (hl : getL name ds = some (some v) := by k_get) (hv : handedIn v = true := by k_handed) :
    wpAny (model prog w) A (getAttr (.ref o) name expr) Q E ⟨h, g, d, t, so⟩ := get_own (s := ⟨h, g, d, t, so⟩) F X I hg hh ha hn hl hv (k _)
end
-- the names of a simple expression are local
noncomputable def okE (cs : Scope) : Nat → Expr → Bool
  | 0, _ => false
  | n + 1, e => match e with
    | .Name x _ => okN cs x .local
    | .Constant _ _ _ => true
    | .UnaryOp _ x _ => okE cs n x
    | .BinOp l _ r _ => okE cs n l && okE cs n r
    | _ => false
-- a constant's value, and the tokens behind it
noncomputable def conv (c : Const) (t : Tok) : Option (Value × Tok) := match c with
  | .int i => some (.int i t, t + 1)
  | .str x => some (.str x t, t + 1)
  | .bool b => some (.bool b, t)
  | .none => some (.none, t)
  | _ => none
-- an int
noncomputable def intv : Value → Option Int
  | .int a _ => some a
  | _ => none
-- a sum or a difference
noncomputable def binv (op : Operator) (a b : Int) : Option Int := match op with
  | .Add => some (a + b)
  | .Sub => some (a - b)
  | _ => none
noncomputable def negop : UnaryOp → Bool
  | .USub => true
  | _ => false
-- what a simple expression gives, and the tokens behind it
noncomputable def sev (m : Str → Option Value) : Nat → Expr → Tok → Option (Value × Tok)
  | 0, _, _ => none
  | n + 1, e, t => match e with
    | .Name x _ => (m x).bind fun v => some (v, t)
    | .Constant c _ _ => conv c t
    | .UnaryOp op x _ => cond (negop op) ((sev m n x t).bind fun p => (intv p.1).bind fun a => some (.int (-a) p.2, p.2 + 1)) none
    | .BinOp l op r _ => (sev m n l t).bind fun p => (sev m n r p.2).bind fun q => (intv p.1).bind fun a => (intv q.1).bind fun b => (binv op a b).bind fun c => some (.int c q.2, q.2 + 1)
    | _ => none
theorem intv.out {v : Value} {a : Int} (h : intv v = some a) : ∃ t, v = .int a t := by
  cases v with
  | int b t => exact ⟨t, by rw [Option.some.inj h]⟩
  | _ => cases h
theorem negop.out {op : UnaryOp} (h : negop op = true) : op = .USub := by
  cases op with
  | USub => rfl
  | _ => cases h
section
variable {prog : Program} {w : World} {A : Around} {E : Value → Shared → Prop} {h₀ : Heap} {L a : Addr} {m : Str → Option Value} {cn : Str} {cs : Scope} {ccd : Value} {cl : List (Str × Addr)}
theorem conv_ok {c : Const} {k : Nat} {pos : Pos} {env : Env} {s : Shared} {v : Value} {t : Tok} {Q : Value → Shared → Prop} (hv : conv c s.toks = some (v, t)) (h : Q v { s with toks := t }) : wpAny (model prog w) A (eval (.Constant c k pos) env) Q E s := by
  cases c with
  | int i => cases hv; exact wpAny_Constant_int h
  | str x => cases hv; exact Calls.Constant_str h
  | bool b => cases hv; exact wpAny_Constant_bool h
  | none => cases hv; exact wpAny_Constant_none h
  | _ => cases hv
theorem binv_ok {op : Operator} {x y z : Int} {u u' : Tok} {s : Shared} {Q : Value → Shared → Prop} (hv : binv op x y = some z) (h : Q (.int z s.toks) { s with toks := s.toks + 1 }) : wpAny (model prog w) A (binaryOp op (.int x u) (.int y u')) Q E s := by
  cases op with
  | Add => cases hv; exact add_int h
  | Sub => cases hv; exact sub_int h
  | _ => cases hv
theorem eval_sevT : ∀ (n : Nat) {e : Expr} {s : Shared} {v : Value} {t : Tok} {Q : Value → Shared → Prop}, Fr h₀ L s.heap m → okE cs n e = true → sev m n e s.toks = some (v, t) → Q v { s with toks := t } → wpAny (model prog w) A (eval e (envX cn cs L a ccd cl)) Q E s := by
  intro n
  induction n with
  | zero => intro e s v t Q _ ok; cases ok
  | succ n ih =>
    intro e s v t Q F ok hv h
    cases e with
    | Name x p =>
      obtain ⟨v', e1, e2⟩ := Option.bind_eq_some_iff.mp hv
      cases e2
      exact name_L h ok F e1
    | Constant c k p => exact conv_ok hv h
    | UnaryOp op x p =>
      replace hv : cond (negop op) ((sev m n x s.toks).bind fun p => (intv p.1).bind fun a => some (.int (-a) p.2, p.2 + 1)) none = some (v, t) := hv
      cases eo : negop op with
      | false => rw [eo] at hv; cases hv
      | true =>
        rw [eo] at hv
        obtain rfl := negop.out eo
        obtain ⟨p1, e1, e2⟩ := Option.bind_eq_some_iff.mp hv
        obtain ⟨b, e3, e4⟩ := Option.bind_eq_some_iff.mp e2
        obtain ⟨v1, t1⟩ := p1
        obtain ⟨u, rfl⟩ := intv.out e3
        cases e4
        exact wpAny_UnaryOp (ih F ok e1 (neg_int h))
    | BinOp l op r p =>
      obtain ⟨o1, o2⟩ := Bool.and_eq_true_iff.mp ok
      obtain ⟨⟨v1, t1⟩, e1, f1⟩ := Option.bind_eq_some_iff.mp hv
      obtain ⟨⟨v2, t2⟩, e2, f2⟩ := Option.bind_eq_some_iff.mp f1
      obtain ⟨x, e3, f3⟩ := Option.bind_eq_some_iff.mp f2
      obtain ⟨y, e4, f4⟩ := Option.bind_eq_some_iff.mp f3
      obtain ⟨z, e5, f5⟩ := Option.bind_eq_some_iff.mp f4
      clear f1 f2 f3 f4 hv
      obtain ⟨u, rfl⟩ := intv.out e3
      obtain ⟨u', rfl⟩ := intv.out e4
      cases f5
      exact wpAny_BinOp (ih F o1 e1 (ih (s := { s with toks := t1 }) F o2 e2 (binv_ok (s := { s with toks := t2 }) e5 h)))
    | _ => cases ok
end
-- arguments that are simple expressions
noncomputable def okEs (cs : Scope) : List Expr → Bool
  | [] => true
  | e :: r => okE cs 4 e && okEs cs r
noncomputable def sevs (m : Str → Option Value) : List Expr → Tok → Option (List Value × Tok)
  | [], t => some ([], t)
  | e :: r, t => (sev m 4 e t).bind fun p => (sevs m r p.2).bind fun q => some (p.1 :: q.1, q.2)
theorem star_sev {cs : Scope} {n : Nat} {e : Expr} (ok : okE cs n e = true) {r : List Expr} {env : Env} : starEach (e :: r) env = (false, eval e env) :: starEach r env := by
  cases n with
  | zero => cases ok
  | succ n => cases e <;> first | rfl | cases ok
theorem plain_sevs {cs : Scope} {pos : Pos} {env : Env} {es : List Expr} (ok : okEs cs es = true) : (backTo pos (starEach es env)).any (·.1) = false := by
  induction es with
  | nil => rfl
  | cons e r ih =>
    obtain ⟨o1, o2⟩ := Bool.and_eq_true_iff.mp ok
    rw [star_sev o1]
    show (false || (backTo pos (starEach r env)).any (·.1)) = false
    rw [ih o2]; rfl
section
variable {prog : Program} {w : World} {A : Around} {E : Value → Shared → Prop} {h : Heap} {g : Array GenState} {d : PySem.Drawn} {ts : Nat} {so : OsState} {K : Frag} {h₀ : Heap} {L a : Addr} {m mg mb : Str → Option Value} {cn : Str} {cs : Scope} {ccd : Value} {cl : List (Str × Addr)} {p : Program} {loose : List Str} {mean : ExcName → Option Value} {pos pn : Pos} {x : Str} {es : List Expr} {vs first : List Value} {fv v : Value} {t : Tok} {e : Expr}
theorem eval_sev {n : Nat} {Q : Value → Shared → Prop} (k : ∀ t, Q v ⟨h, g, d, t, so⟩) (ok : okE cs n e = true := by decide +kernel) (F : Fr h₀ L h m := by k_asm) (hv : sev m n e ts = some (v, t) := by rfl) : wpAny (model prog w) A (eval e (envX cn cs L a ccd cl)) Q E ⟨h, g, d, ts, so⟩ := eval_sevT n (s := ⟨h, g, d, ts, so⟩) F ok hv (k _)
theorem args_sevT {s : Shared} {Q : List Value → Shared → Prop} (F : Fr h₀ L s.heap m) (ok : okEs cs es = true) (hv : sevs m es s.toks = some (vs, t)) (h : Q vs { s with toks := t }) : wpAny (model prog w) A (spliced (backTo pos (starEach es (envX cn cs L a ccd cl)))) Q E s := by
  induction es generalizing vs Q s with
  | nil => cases hv; exact args_nil h
  | cons e r ih =>
    obtain ⟨o1, o2⟩ := Bool.and_eq_true_iff.mp ok
    obtain ⟨⟨v1, t1⟩, e1, hv⟩ := Option.bind_eq_some_iff.mp hv
    obtain ⟨⟨v2, t2⟩, e2, hv⟩ := Option.bind_eq_some_iff.mp hv
    cases hv
    exact args_cons (eval_sevT 4 F o1 e1 (ih (s := { s with toks := t1 }) F o2 e2 h)) (star_sev o1)
theorem args_sevs {Q : List Value → Shared → Prop} (k : ∀ t, Q vs ⟨h, g, d, t, so⟩) (ok : okEs cs es = true := by decide +kernel) (F : Fr h₀ L h m := by k_asm) (hv : sevs m es ts = some (vs, t) := by rfl) : wpAny (model prog w) A (spliced (backTo pos (starEach es (envX cn cs L a ccd cl)))) Q E ⟨h, g, d, ts, so⟩ := args_sevT (s := ⟨h, g, d, ts, so⟩) F ok hv (k _)
theorem call_sevs {s : Shared} {Q : Value → Shared → Prop} (F : Fr h₀ L s.heap m) (X : K.In h₀) (hk : keepIn K fv = true) (ok : okEs cs es = true) (hv : sevs m es s.toks = some (vs, t)) (h : wpAny (model prog w) A (call fv (first ++ vs)) Q E { s with toks := t }) :
    wpAny (model prog w) A (callWith pos fv first (backTo pos (starEach es (envX cn cs L a ccd cl))) []) Q E s := by
  cases es with
  | nil => cases hv; exact callWith_K0F h F X hk
  | cons e r => exact callWith_K X hk (args_sevT F ok hv ⟨kin_of F X, h⟩) (star_sev (Bool.and_eq_true_iff.mp ok).1) (plain_sevs (Bool.and_eq_true_iff.mp ok).2)
theorem CallS {Q : Value → Shared → Prop} (k : ∀ t, wpAny (model prog w) A (call fv vs) Q E ⟨h, g, d, t, so⟩) (ok : okN cs x .globalImplicit = true := by decide +kernel) (oka : okEs cs es = true := by decide +kernel) (F : Fr h₀ L h m := by k_asm) (X : K.In h₀ := by k_asm) (T : TopRead p loose mg mb h₀ := by k_asm) (e : nsIn K mainGlobals x = some (some fv) := by k_is) (hk : keepIn K fv = true := by k_is) (hv : sevs m es ts = some (vs, t) := by rfl) : wpAny (model prog w) A (eval (.Call (.Name x pn) es [] pos) (envX cn cs L a ccd cl)) Q E ⟨h, g, d, ts, so⟩ :=
  Call_ (name_G (s := ⟨h, g, d, ts, so⟩) (call_sevs (s := ⟨h, g, d, ts, so⟩) F X hk oka hv (k _)) ok F X T e)
theorem CallI {id : String} {Q : Value → Shared → Prop} {e' : Expr} {r : List Expr} (k : ∀ t, wpAny (model prog w) A (call (.builtin id) vs) Q E ⟨h, g, d, t, so⟩) (ok : okN cs x .globalImplicit = true := by decide +kernel) (oka : okEs cs (e' :: r) = true := by decide +kernel) (F : Fr h₀ L h m := by k_asm) (X : K.In h₀ := by k_asm) (T : TopRead p loose mg mb h₀ := by k_asm) (e : nsIn K mainGlobals x = some none := by k_is) (hb : bootBuiltins x = some fv := by boot_fast) (hf : fv = .builtin id := by rfl) (hn : x ≠ "__name__" := by decide) (hv : sevs m (e' :: r) ts = some (vs, t) := by rfl) : wpAny (model prog w) A (eval (.Call (.Name x pn) (e' :: r) [] pos) (envX cn cs L a ccd cl)) Q E ⟨h, g, d, ts, so⟩ := by
  subst hf
  exact Call_ (name_I (s := ⟨h, g, d, ts, so⟩) (PyProof.Rows.callWith_builtin1 (args_sevT (s := ⟨h, g, d, ts, so⟩) F oka hv (k _)) (star_sev (Bool.and_eq_true_iff.mp oka).1) (plain_sevs (Bool.and_eq_true_iff.mp oka).2)) ok F X T e hb hn)
theorem MethS {pl : Sem Bool} {o C f : Addr} {ox : Obj} {name : Str} {ds : List DictEntry} {n : Nat} {xp apos : Pos} {Q : Value → Shared → Prop} (k : ∀ t, wpAny (model prog w) A (call (.ref f) (.ref o :: vs)) Q E ⟨h, g, d, t, so⟩) (ok : okN cs x .local = true := by decide +kernel) (oka : okEs cs es = true := by decide +kernel)
    (he : eval (.Call (.Attribute (.Name x xp) name apos) es [] pos) (envX cn cs L a ccd cl) = (do
      let ov ← eval (.Name x xp) (envX cn cs L a ccd cl)
      standAt apos.atName
      let (f, first) ← holding [ov] (getMethod ov name pl)
      callWith pos f first (backTo pos (starEach es (envX cn cs L a ccd cl))) []) := by rfl) (F : Fr h₀ L h m := by k_asm) (hx : m x = some (.ref o) := by rfl) (X : K.In h₀ := by k_asm) (I : PySem.W.InstAt h o ox C (some (dictOf ds n)) := by k_inst) (hg : plainGet K C name = true := by k_is)
    (hf : findIn K (.ref C) name = some (some (.ref f)) := by k_is) (ht : isFn K (.ref f) = true := by k_is) (hl : getL name ds = some none := by k_get) (hk : keepIn K (.ref f) = true := by k_is) (hva : sevs m es ts = some (vs, t) := by rfl) : wpAny (model prog w) A (eval (.Call (.Attribute (.Name x xp) name apos) es [] pos) (envX cn cs L a ccd cl)) Q E ⟨h, g, d, ts, so⟩ :=
  MethodCall_ (name_L (s := ⟨h, g, d, ts, so⟩) (method_inst F X I hg hf ht hl (call_sevs (s := ⟨h, g, d, ts, so⟩) F X hk oka hva (k _))) ok F hx) he
end
-- a comparison of two ints or strs
noncomputable def cmpi (op : CmpOp) (a b : Int) : Option Bool := match op with
  | .Eq => some (a == b)
  | .NotEq => some (a != b)
  | .Lt => some (decide (a < b))
  | .LtE => some (decide (a ≤ b))
  | .Gt => some (decide (b < a))
  | .GtE => some (decide (b ≤ a))
  | _ => none
noncomputable def cmps (op : CmpOp) (a b : Str) : Option Bool := match op with
  | .Eq => some (a == b)
  | .NotEq => some (a != b)
  | _ => none
noncomputable def cmpv (op : CmpOp) (v u : Value) : Option Bool := match v with
  | .int a _ => (match u with
    | .int b _ => cmpi op a b
    | _ => none)
  | .str a _ => (match u with
    | .str b _ => cmps op a b
    | _ => none)
  | _ => none
section
variable {prog : Program} {w : World} {A : Around} {E : Value → Shared → Prop} {h : Heap} {g : Array GenState} {d : PySem.Drawn} {ts : Nat} {so : OsState} {h₀ : Heap} {L a : Addr} {m : Str → Option Value} {cn : Str} {cs : Scope} {ccd : Value} {cl : List (Str × Addr)} {pos : Pos} {l r : Expr} {op : CmpOp} {v u : Value} {t t' : Tok} {b : Bool}
theorem cmp_of {s : Shared} {Q : Value → Shared → Prop} (hb : cmpv op v u = some b) (h : Q (.bool b) s) : wpAny (model prog w) A (compareOp op v u) Q E s := by
  cases v with
  | int x _ =>
    cases u with
    | int y _ =>
      cases op with
      | Eq => cases hb; exact eq_int h
      | NotEq => cases hb; exact ne_int h
      | Lt => cases hb; exact lt_int h
      | LtE => cases hb; exact le_int h
      | Gt => cases hb; exact gt_int h
      | GtE => cases hb; exact ge_int h
      | _ => cases hb
    | _ => cases hb
  | str x _ =>
    cases u with
    | str y _ =>
      cases op with
      | Eq => cases hb; exact eq_str h
      | NotEq => cases hb; exact ne_str h
      | _ => cases hb
    | _ => cases hb
  | _ => cases hb
theorem behind_sev {n : Nat} (ok : okE cs n r = true) : behindInMarks op r = false := by
  cases n with
  | zero => cases ok
  | succ n => cases r <;> first | rfl | cases ok
theorem isTrue_cmp {whole : Sem Value} {Q : Bool → Shared → Prop} (k : ∀ t, Q b ⟨h, g, d, t, so⟩) (o1 : okE cs 4 l = true := by decide +kernel) (o2 : okE cs 4 r = true := by decide +kernel) (F : Fr h₀ L h m := by k_asm) (h1 : sev m 4 l ts = some (v, t) := by rfl) (h2 : sev m 4 r t = some (u, t') := by rfl) (hb : cmpv op v u = some b := by rfl) :
    wpAny (model prog w) A (PySem.isTrue (l.Compare [op] [r] pos) (envX cn cs L a ccd cl) whole) Q E ⟨h, g, d, ts, so⟩ :=
  wpAny_isTrue_Compare1 (eval_sevT 4 (s := ⟨h, g, d, ts, so⟩) F o1 h1 (eval_sevT (s := ⟨h, g, d, t, so⟩) 4 F o2 h2 (cmp_of hb (wpAny_truthy_bool (k _))))) (behind_sev o2)
theorem If_cmp {body orelse : List Stmt} {p2 : Pos} {Q : Flow → Shared → Prop} (k : ∀ t, if b = true then wpAny (model prog w) A (execs body (envX cn cs L a ccd cl)) Q E ⟨h, g, d, t, so⟩ else wpAny (model prog w) A (execs orelse (envX cn cs L a ccd cl)) Q E ⟨h, g, d, t, so⟩)
    (o1 : okE cs 4 l = true := by decide +kernel) (o2 : okE cs 4 r = true := by decide +kernel) (F : Fr h₀ L h m := by k_asm) (h1 : sev m 4 l ts = some (v, t) := by rfl) (h2 : sev m 4 r t = some (u, t') := by rfl) (hb : cmpv op v u = some b := by rfl) :
    wpAny (model prog w) A (exec (.If (l.Compare [op] [r] pos) body orelse p2) (envX cn cs L a ccd cl)) Q E ⟨h, g, d, ts, so⟩ :=
  wpAny_If (isTrue_cmp k o1 o2 F h1 h2 hb)
theorem Return_sev {e : Expr} {Q : Flow → Shared → Prop} (k : ∀ t, Q (.ret v) ⟨h, g, d, t, so⟩) (ok : okE cs 4 e = true := by decide +kernel) (F : Fr h₀ L h m := by k_asm) (hv : sev m 4 e ts = some (v, t) := by rfl) : wpAny (model prog w) A (exec (.Return (some e) pos) (envX cn cs L a ccd cl)) Q E ⟨h, g, d, ts, so⟩ :=
  wpAny_Return_some (eval_sev k ok F hv)
theorem Assign_sev {e : Expr} {x : Str} {px : Pos} {news : List (Addr × Obj)} {Q : Flow → Shared → Prop} (k : ∀ h', (let mm : Str → Option Value := fun y => if y = x then some v else m y; Fr h₀ L h' mm → News h₀ L h' news → ∀ t, Q .next ⟨h', g, d, t, so⟩))
    (ok : okE cs 4 e = true := by decide +kernel) (okx : okN cs x .local = true := by decide +kernel) (F : Fr h₀ L h m := by k_asm) (N : News h₀ L h news := by k_asm) (hv : sev m 4 e ts = some (v, t) := by rfl) (hsw : swapsWith e (some (Expr.Name x px)) pos.line (envX cn cs L a ccd cl) = pure false := by rfl) : wpAny (model prog w) A (exec (.Assign [Expr.Name x px] e pos) (envX cn cs L a ccd cl)) Q E ⟨h, g, d, ts, so⟩ :=
  wpAny_Assign_Name (eval_sevT 4 (s := ⟨h, g, d, ts, so⟩) F ok hv (store_L k okx F N)) hsw
theorem args_sev1 {e : Expr} {r : List Expr} {Q : List Value → Shared → Prop} (k : ∀ t, wpAny (model prog w) A (spliced (backTo pos (starEach r (envX cn cs L a ccd cl)))) (fun vs s₂ => Q (v :: vs) s₂) E ⟨h, g, d, t, so⟩) (ok : okE cs 4 e = true := by decide +kernel) (F : Fr h₀ L h m := by k_asm) (hv : sev m 4 e ts = some (v, t) := by rfl) : wpAny (model prog w) A (spliced (backTo pos (starEach (e :: r) (envX cn cs L a ccd cl)))) Q E ⟨h, g, d, ts, so⟩ :=
  args_cons (eval_sev k ok F hv) (star_sev ok)
end
section
variable {prog : Program} {w : World} {A₀ A : Around} {base h₀ : Heap} {outer : List Env} {L : Addr} {m : Str → Option Value} {s : Shared} {env : Env} {K : Frag} {p : Program} {loose : List Str} {mean : ExcName → Option Value} {mg mb : Str → Option Value}
  {name qual : Str} {params : Arguments} {body : List Stmt} {scope : Scope} {dV kV doc pm cdv ct oc : Value} {an od : Option Addr} {osl : Array (Option Value)} {f : Addr} {vals : List Value} {Q E : Value → Shared → Prop}
-- a def without cells is entered; what stands is the new frame's ground
theorem enter_plain (B : Below A₀ base outer h₀) (F : Fr h₀ L s.heap m) (X₀ : K.In h₀) (T : Top p loose mean mg mb h₀) (hA : A.frames = some (env :: outer)) (hf : env.frame = some L) (hke : env.scope.kind = .function)
    (ho : K.lookup f = some ⟨oc, od, .func (fnOf name qual params body scope dV kV doc pm an cdv ct), osl⟩) (hcd : codeIn K cdv qual = true) (hroom : A.depth < recursionLimit)
    (hbind : bindArgs (fnOf name qual params body scope dV kV doc pm an cdv ct) ⟨vals, []⟩ = pure ((params.args.map (·.arg)).zip vals)) (hloc : ∀ y ∈ (params.args.map (·.arg)).zip vals, scope.names.lookup y.1 = some .local)
    (h : ∀ (L₁ : Addr) (h₁ : Heap) (tk : Nat), Fr s.heap L₁ h₁ (fun y => ((params.args.map (·.arg)).zip vals).reverse.lookup y) → News s.heap L₁ h₁ [] → Below A base (env :: outer) s.heap → K.In s.heap → Top p loose mean mg mb s.heap →
      wpAny (model prog w) (A.deeper (envOf qual scope L₁ f cdv)) (execs body (envOf qual scope L₁ f cdv)) (fun fl s' => Q (match fl with | .ret v => v | _ => .none) s')
        (fun e s' => wpAny (model prog w) (A.deeper (envOf qual scope L₁ f cdv)) (leaving (envOf qual scope L₁ f cdv) e) (fun _ s'' => E e s'') (fun e' s'' => E e' s'') s') { s with heap := h₁, toks := tk })
    (hco : scope.isCoroutine = false) (hgen : scope.isGenerator = false) (hk : scope.kind = .function) (hcell : ∀ x ∈ scope.names, x.2 ≠ .cell) : wpAny (model prog w) A (call (.ref f) vals) Q E s := by
  have P := pushX B F hf hke
  refine wpAny_call (codeAny_call_def (fd := fnOf name qual params body scope dV kV doc pm an cdv ct) (body := body) hroom ((X₀.keeps F.keep) _ _ ho) rfl (T.nolimit.keeps F.keep) (codeRec_of (X₀.keeps F.keep) hcd) rfl (BindsTo.of_eq hbind) hcell hloc (fun h₁ hns hk₁ => ?_) hco hgen hk)
  exact h s.heap.objs.size h₁ _ ⟨hns, hk₁, Nat.le_refl _⟩ News.nil ⟨hA, P.stays, P.frames⟩ (X₀.keeps F.keep) (T.keeps F.keep)
-- a def with cells is entered
theorem enter_cells (B : Below A₀ base outer h₀) (F : Fr h₀ L s.heap m) (X₀ : K.In h₀) (T : Top p loose mean mg mb h₀) (hA : A.frames = some (env :: outer)) (hf : env.frame = some L) (hke : env.scope.kind = .function)
    (ho : K.lookup f = some ⟨oc, od, .func (fnOf name qual params body scope dV kV doc pm an cdv ct), osl⟩) (hcd : codeIn K cdv qual = true) (hroom : A.depth < recursionLimit)
    (hbind : bindArgs (fnOf name qual params body scope dV kV doc pm an cdv ct) ⟨vals, []⟩ = pure ((params.args.map (·.arg)).zip vals))
    (hkind : (((params.args.map (·.arg)).zip vals).all fun y => scope.names.lookup y.1 == some .local || scope.names.lookup y.1 == some .cell) = true) (hnd : ((cellsFrom 0 scope.names []).map (·.1)).Nodup)
    (h : ∀ (L₁ : Addr) (h₁ : Heap) (tk : Nat) (cells : List (Addr × Obj)), Fr s.heap L₁ h₁ (bindL (envOfC qual scope L₁ f cdv).kindOf ((params.args.map (·.arg)).zip vals) fun _ => none) → News s.heap L₁ h₁ cells →
      CellsAre (bindC (envOfC qual scope L₁ f cdv).kindOf ((params.args.map (·.arg)).zip vals) fun _ => none) (cellsFrom (L₁ + 1) scope.names []) cells → Below A base (env :: outer) s.heap → K.In s.heap → Top p loose mean mg mb s.heap →
      wpAny (model prog w) (A.deeper (envOfC qual scope L₁ f cdv)) (execs body (envOfC qual scope L₁ f cdv)) (fun fl s' => Q (match fl with | .ret v => v | _ => .none) s')
        (fun e s' => wpAny (model prog w) (A.deeper (envOfC qual scope L₁ f cdv)) (leaving (envOfC qual scope L₁ f cdv) e) (fun _ s'' => E e s'') (fun e' s'' => E e' s'') s') { s with heap := h₁, toks := tk })
    (hco : scope.isCoroutine = false) (hgen : scope.isGenerator = false) (hk : scope.kind = .function) : wpAny (model prog w) A (call (.ref f) vals) Q E s := by
  have P := pushX B F hf hke
  refine wpAny_call (codeAny_call_cells (fd := fnOf name qual params body scope dV kV doc pm an cdv ct) (body := body) hroom ((X₀.keeps F.keep) _ _ ho) rfl (T.nolimit.keeps F.keep) (codeRec_of (X₀.keeps F.keep) hcd) rfl hbind rfl (kindsX hkind _) (fun s₁ Y => ?_) hco hgen hk)
  obtain ⟨h₁, tk, rfl, _⟩ := Y.done
  obtain ⟨cells, N, Z⟩ := Cl.news (h₀ := s.heap) (Nat.le_refl _) fun n c hm => ⟨Y.cell n c (lookup_of_mem_nodup (cellsFrom_names scope.names 0 (s.heap.objs.size + 1) [] [] rfl ▸ hnd) hm), Y.above n c hm⟩
  exact h s.heap.objs.size h₁ tk cells ⟨Y.toInCall.ns, Y.toInCall.keep, Nat.le_refl _⟩ N Z ⟨hA, P.stays, P.frames⟩ (X₀.keeps F.keep) (T.keeps F.keep)
variable {news : List (Addr × Obj)}
-- a def without cells is entered; the ledger 'news' goes in, the rest is the new frame's ground
theorem enterO_plain (B : Below A₀ base outer h₀) (F : Fr h₀ L s.heap m) (X₀ : K.In h₀) (N : News h₀ L s.heap news) (T : Top p loose mean mg mb h₀) (hA : A.frames = some (env :: outer)) (hf : env.frame = some L) (hke : env.scope.kind = .function)
    (ho : K.lookup f = some ⟨oc, od, .func (fnOf name qual params body scope dV kV doc pm an cdv ct), osl⟩) (hcd : codeIn K cdv qual = true) (hroom : A.depth < recursionLimit)
    (hbind : bindArgs (fnOf name qual params body scope dV kV doc pm an cdv ct) ⟨vals, []⟩ = pure ((params.args.map (·.arg)).zip vals)) (hloc : ∀ y ∈ (params.args.map (·.arg)).zip vals, scope.names.lookup y.1 = some .local)
    (h : ∀ (g : Heap) (L₁ : Addr) (h₁ : Heap) (tk : Nat), Fr g L₁ h₁ (fun y => ((params.args.map (·.arg)).zip vals).reverse.lookup y) → News g L₁ h₁ news → Below A base (env :: outer) g → K.In g → Top p loose mean mg mb g → GSub s.heap g (news.map (·.1)) → (∀ q ∈ news, q.1 < L₁) →
      wpAny (model prog w) (A.deeper (envOf qual scope L₁ f cdv)) (execs body (envOf qual scope L₁ f cdv)) (fun fl s' => Q (match fl with | .ret v => v | _ => .none) s')
        (fun e s' => wpAny (model prog w) (A.deeper (envOf qual scope L₁ f cdv)) (leaving (envOf qual scope L₁ f cdv) e) (fun _ s'' => E e s'') (fun e' s'' => E e' s'') s') { s with heap := h₁, toks := tk })
    (hco : scope.isCoroutine = false) (hgen : scope.isGenerator = false) (hk : scope.kind = .function) (hcell : ∀ x ∈ scope.names, x.2 ≠ .cell) : wpAny (model prog w) A (call (.ref f) vals) Q E s := by
  obtain ⟨FG, BG, st, lv⟩ := groundX (R := fun _ _ => True) B F N hA hf hke
  refine wpAny_call (codeAny_call_def (fd := fnOf name qual params body scope dV kV doc pm an cdv ct) (body := body) hroom ((X₀.keeps F.keep) _ _ ho) rfl (T.nolimit.keeps F.keep) (codeRec_of (X₀.keeps F.keep) hcd) rfl (BindsTo.of_eq hbind) hcell hloc (fun h₁ hns hk₁ => ?_) hco hgen hk)
  exact h (hideAll s.heap (news.map fun x : Addr × Obj => x.1)) s.heap.objs.size h₁ _ ⟨hns, fun b o e => hk₁ b o (of_hideAll _ e), Nat.le_of_eq (hideAll_size _ _)⟩
    (fun p hp => ⟨hk₁ _ _ (N p hp).1, Nat.ne_of_lt (Heap.lt_size (N p hp).1), hideAll_none _ (List.mem_map_of_mem hp)⟩) BG (X₀.keeps st) (T.keeps st) (fun b o e n => hideAll_get _ e n) (fun p hp => Heap.lt_size (N p hp).1)
theorem enterO_cells (B : Below A₀ base outer h₀) (F : Fr h₀ L s.heap m) (X₀ : K.In h₀) (N : News h₀ L s.heap news) (T : Top p loose mean mg mb h₀) (hA : A.frames = some (env :: outer)) (hf : env.frame = some L) (hke : env.scope.kind = .function)
    (ho : K.lookup f = some ⟨oc, od, .func (fnOf name qual params body scope dV kV doc pm an cdv ct), osl⟩) (hcd : codeIn K cdv qual = true) (hroom : A.depth < recursionLimit)
    (hbind : bindArgs (fnOf name qual params body scope dV kV doc pm an cdv ct) ⟨vals, []⟩ = pure ((params.args.map (·.arg)).zip vals))
    (hkind : (((params.args.map (·.arg)).zip vals).all fun y => scope.names.lookup y.1 == some .local || scope.names.lookup y.1 == some .cell) = true) (hnd : ((cellsFrom 0 scope.names []).map (·.1)).Nodup)
    (h : ∀ (g : Heap) (L₁ : Addr) (h₁ : Heap) (tk : Nat) (cells : List (Addr × Obj)), Fr g L₁ h₁ (bindL (envOfC qual scope L₁ f cdv).kindOf ((params.args.map (·.arg)).zip vals) fun _ => none) → News g L₁ h₁ (cells ++ news) →
      CellsAre (bindC (envOfC qual scope L₁ f cdv).kindOf ((params.args.map (·.arg)).zip vals) fun _ => none) (cellsFrom (L₁ + 1) scope.names []) cells → Below A base (env :: outer) g → K.In g → Top p loose mean mg mb g → GSub s.heap g (news.map (·.1)) → (∀ q ∈ news, q.1 < L₁) →
      wpAny (model prog w) (A.deeper (envOfC qual scope L₁ f cdv)) (execs body (envOfC qual scope L₁ f cdv)) (fun fl s' => Q (match fl with | .ret v => v | _ => .none) s')
        (fun e s' => wpAny (model prog w) (A.deeper (envOfC qual scope L₁ f cdv)) (leaving (envOfC qual scope L₁ f cdv) e) (fun _ s'' => E e s'') (fun e' s'' => E e' s'') s') { s with heap := h₁, toks := tk })
    (hco : scope.isCoroutine = false) (hgen : scope.isGenerator = false) (hk : scope.kind = .function) : wpAny (model prog w) A (call (.ref f) vals) Q E s := by
  obtain ⟨FG, BG, st, lv⟩ := groundX (R := fun _ _ => True) B F N hA hf hke
  refine wpAny_call (codeAny_call_cells (fd := fnOf name qual params body scope dV kV doc pm an cdv ct) (body := body) hroom ((X₀.keeps F.keep) _ _ ho) rfl (T.nolimit.keeps F.keep) (codeRec_of (X₀.keeps F.keep) hcd) rfl hbind rfl (kindsX hkind _) (fun s₁ Y => ?_) hco hgen hk)
  obtain ⟨h₁, tk, rfl, _⟩ := Y.done
  have hk₁ := Y.toInCall.keep
  obtain ⟨cells, NC, Z⟩ := Cl.news (h₀ := s.heap) (Nat.le_refl _) fun n c hm => ⟨Y.cell n c (lookup_of_mem_nodup (cellsFrom_names scope.names 0 (s.heap.objs.size + 1) [] [] rfl ▸ hnd) hm), Y.above n c hm⟩
  refine h (hideAll s.heap (news.map fun x : Addr × Obj => x.1)) s.heap.objs.size h₁ tk cells ⟨Y.toInCall.ns, fun b o e => hk₁ b o (of_hideAll _ e), Nat.le_of_eq (hideAll_size _ _)⟩ (fun p hp => ?_) Z BG (X₀.keeps st) (T.keeps st) (fun b o e n => hideAll_get _ e n) (fun p hp => Heap.lt_size (N p hp).1)
  rcases List.mem_append.mp hp with hp | hp
  · refine ⟨(NC p hp).1, (NC p hp).2.1, ?_⟩
    cases q : (hideAll s.heap (news.map (·.1))).get? p.1 with
    | none => rfl
    | some o => have := of_hideAll _ q; rw [(NC p hp).2.2] at this; cases this
  · exact ⟨hk₁ _ _ (N p hp).1, Nat.ne_of_lt (Heap.lt_size (N p hp).1), hideAll_none _ (List.mem_map_of_mem hp)⟩
end
-- an object of the ledger taken out
inductive Rem (d : Addr) (o : Obj) : List (Addr × Obj) → List (Addr × Obj) → Prop
  | head {r} : (∀ p ∈ r, p.1 ≠ d) → Rem d o ((d, o) :: r) r
  | tail {p r r'} : p.1 ≠ d → Rem d o r r' → Rem d o (p :: r) (p :: r')
inductive Rems : List (Addr × Obj) → List (Addr × Obj) → List (Addr × Obj) → Prop
  | nil {n} : Rems [] n n
  | cons {d o own n r rest} : Rem d o n r → Rems own r rest → Rems ((d, o) :: own) n rest
theorem Rem.spec {d : Addr} {o : Obj} : ∀ {n r : List (Addr × Obj)}, Rem d o n r → (d, o) ∈ n ∧ (∀ q ∈ r, q ∈ n) ∧ ∀ q ∈ r, q.1 ≠ d
  | _, _, .head h => ⟨.head _, fun _ hq => .tail _ hq, h⟩
  | _, _, .tail h t => by
    obtain ⟨a, b, c⟩ := t.spec
    refine ⟨.tail _ a, fun q hq => ?_, fun q hq => ?_⟩
    · rcases List.mem_cons.mp hq with rfl | hq
      · exact .head _
      · exact .tail _ (b q hq)
    · rcases List.mem_cons.mp hq with rfl | hq
      · exact h
      · exact c q hq
theorem Rems.spec : ∀ {own n r : List (Addr × Obj)}, Rems own n r → (∀ q ∈ own, q ∈ n) ∧ (∀ q ∈ r, q ∈ n) ∧ ∀ q ∈ r, ∀ b ∈ own, b.1 ≠ q.1
  | _, _, _, .nil => ⟨fun _ h => (nomatch h), fun _ h => h, fun _ _ _ h => (nomatch h)⟩
  | _, _, _, .cons h t => by
    obtain ⟨a, b, c⟩ := h.spec
    obtain ⟨a', b', c'⟩ := t.spec
    refine ⟨fun q hq => ?_, fun q hq => b q (b' q hq), fun q hq x hx => ?_⟩
    · rcases List.mem_cons.mp hq with rfl | hq
      · exact a
      · exact b q (a' q hq)
    · rcases List.mem_cons.mp hx with rfl | hx
      · exact (c q (b' q hq)).symm
      · exact c' q hq x hx
theorem gsub_of {h g h' : Heap} {L : Addr} {m : Str → Option Value} {own : List Addr} (G : GSub h g own) (F : Fr g L h' m) : GSub h h' own := fun b o e n => F.keep b o (G b o e n)
theorem CtM.useR {K : Params → Frag} {w : World} {f : Addr} {Pre : Heap → Prop} {dd uu : Nat} {vs : List Value} {own : List (Addr × Obj)} {Post : Heap → Heap → Value → Prop}
    {p : Program} {loose : List Str} {mean : ExcName → Option Value} {mg mb : Str → Option Value}
    {dp un : Nat} {gd : Option (List Code)} {env : Env} {outer : List Env} {A₀ : Around} {base h₀ : Heap} {L : Addr} {m : Str → Option Value} {sh : Heap} {sg : Array GenState} {sd : Drawn} {st : Nat} {so : OsState} {Q E : Value → Shared → Prop} {news rest : List (Addr × Obj)}
    (C : CtM K w f Pre dd uu vs own Post) (B : Below A₀ base outer h₀) (F : Fr h₀ L sh m) (X : (K w.params).In h₀) (N : News h₀ L sh news) (T : Top p loose mean mg mb h₀) (hf : env.frame = some L) (hk : env.scope.kind = .function)
    (R : Rems own news rest)
    (hp : ∀ g, GSub sh g (own.map (·.1)) → h₀.StaysIn g → Pre g) (hdp : dp + dd < recursionLimit) (hu : un + uu < cLine)
    (ret : ∀ (v : Value) (h' : Heap) (tk' : Nat), GSub sh h' (own.map (·.1)) → Fr h₀ L h' m → (let nw := rest; News h₀ L h' nw) → (∀ q ∈ own, q.1 ≠ L ∧ h₀.get? q.1 = none) → Post sh h' v → Q v ⟨h', sg, sd, tk', so⟩) :
    wpAny (model PySem.Challenge.rw_np0108_01.row.prog w) (kTop dp un gd env outer) (call (.ref f) vs) Q E ⟨sh, sg, sd, st, so⟩ :=
  CtM.use rest C B F X N T hf hk R.spec.1 R.spec.2.1 R.spec.2.2 (fun g G => hp g G fun b o e => G b o (F.keep b o e) (by
    intro hm
    obtain ⟨q, hq, rfl⟩ := List.mem_map.mp hm
    rw [N.fresh (R.spec.1 q hq)] at e; cases e)) hdp hu ret
section
variable {K : Params → Frag} {w : World} {f : Addr} {Pre : Heap → Prop} {dd uu : Nat} {vals : List Value} {own : List (Addr × Obj)} {Post : Heap → Heap → Value → Prop}
  {name qual : Str} {params : Arguments} {body : List Stmt} {scope : Scope} {dV kV doc pm cdv ct oc : Value} {an od : Option Addr} {osl : Array (Option Value)} {zl : List (Str × Value)}
-- a contract is proved by its body's walk; what is long has a name
theorem CtP.mkP (ho : (K w.params).lookup f = some ⟨oc, od, .func (fnOf name qual params body scope dV kV doc pm an cdv ct), osl⟩) (hcd : codeIn (K w.params) cdv qual = true)
    (hbind : bindArgs (fnOf name qual params body scope dV kV doc pm an cdv ct) ⟨vals, []⟩ = pure ((params.args.map (·.arg)).zip vals)) (hloc : ∀ y ∈ (params.args.map (·.arg)).zip vals, scope.names.lookup y.1 = some .local) (hz : ((params.args.map (·.arg)).zip vals).reverse = zl)
    (hco : scope.isCoroutine = false) (hgen : scope.isGenerator = false) (hk : scope.kind = .function) (hcell : ∀ x ∈ scope.names, x.2 ≠ .cell)
    (h : ∀ (p : Program) (loose : List Str) (mean : ExcName → Option Value) (mg mb : Str → Option Value) (dp un : Nat) (gd : Option (List Code)) (env : Env) (outer : List Env) (base sh : Heap) (sg : Array GenState) (sd : Drawn) (so : OsState) (Q E : Value → Shared → Prop),
      dp + dd < recursionLimit → un + uu < cLine → Pre sh → (∀ (v : Value) (h' : Heap) (tk' : Nat), sh.StaysIn h' → Post sh h' v → Q v ⟨h', sg, sd, tk', so⟩) →
      ∀ (L₁ : Addr) (h₁ : Heap) (tk : Nat), let mm : Str → Option Value := fun y => zl.lookup y; Fr sh L₁ h₁ mm → News sh L₁ h₁ [] → Below (kTop dp un gd env outer) base (env :: outer) sh → (K w.params).In sh → Top p loose mean mg mb sh →
      let A₁ := (kTop dp un gd env outer).deeper (envOf qual scope L₁ f cdv); let qk : Flow → Shared → Prop := fun fl s' => Q (match fl with | .ret v => v | _ => .none) s'
      let ek : Value → Shared → Prop := fun e s' => wpAny (model PySem.Challenge.rw_np0108_01.row.prog w) A₁ (leaving (envOf qual scope L₁ f cdv) e) (fun _ s'' => E e s'') (fun e' s'' => E e' s'') s'
      let gk : Prop := wpAny (model PySem.Challenge.rw_np0108_01.row.prog w) A₁ (execs body (envOf qual scope L₁ f cdv)) qk ek ⟨h₁, sg, sd, tk, so⟩
      gk) : CtP K w f Pre dd uu vals Post := by
  subst hz
  intro p loose mean mg mb dp un gd env outer A₀ base h₀ L m sh sg sd st so Q E B F X T hf hk' hp hdp hu hret
  exact enter_plain (s := ⟨sh, sg, sd, st, so⟩) B F X T rfl hf hk' ho hcd (show dp < recursionLimit by omega) hbind hloc (fun L₁ h₁ tk F₁ N₁ B₁ X₁ T₁ => h p loose mean mg mb dp un gd env outer base sh sg sd so Q E hdp hu hp hret L₁ h₁ tk F₁ N₁ B₁ X₁ T₁) hco hgen hk hcell
theorem CtP.mkC (ho : (K w.params).lookup f = some ⟨oc, od, .func (fnOf name qual params body scope dV kV doc pm an cdv ct), osl⟩) (hcd : codeIn (K w.params) cdv qual = true)
    (hbind : bindArgs (fnOf name qual params body scope dV kV doc pm an cdv ct) ⟨vals, []⟩ = pure ((params.args.map (·.arg)).zip vals))
    (hkind : (((params.args.map (·.arg)).zip vals).all fun y => scope.names.lookup y.1 == some .local || scope.names.lookup y.1 == some .cell) = true) (hnd : ((cellsFrom 0 scope.names []).map (·.1)).Nodup)
    (hco : scope.isCoroutine = false) (hgen : scope.isGenerator = false) (hk : scope.kind = .function)
    (h : ∀ (p : Program) (loose : List Str) (mean : ExcName → Option Value) (mg mb : Str → Option Value) (dp un : Nat) (gd : Option (List Code)) (env : Env) (outer : List Env) (base sh : Heap) (sg : Array GenState) (sd : Drawn) (so : OsState) (Q E : Value → Shared → Prop),
      dp + dd < recursionLimit → un + uu < cLine → Pre sh → (∀ (v : Value) (h' : Heap) (tk' : Nat), sh.StaysIn h' → Post sh h' v → Q v ⟨h', sg, sd, tk', so⟩) →
      ∀ (L₁ : Addr) (h₁ : Heap) (tk : Nat) (cells : List (Addr × Obj)), let mm : Str → Option Value := bindL (envOfC qual scope L₁ f cdv).kindOf ((params.args.map (·.arg)).zip vals) fun _ => none
      Fr sh L₁ h₁ mm → News sh L₁ h₁ cells → CellsAre (bindC (envOfC qual scope L₁ f cdv).kindOf ((params.args.map (·.arg)).zip vals) fun _ => none) (cellsFrom (L₁ + 1) scope.names []) cells → Below (kTop dp un gd env outer) base (env :: outer) sh → (K w.params).In sh → Top p loose mean mg mb sh →
      let A₁ := (kTop dp un gd env outer).deeper (envOfC qual scope L₁ f cdv); let qk : Flow → Shared → Prop := fun fl s' => Q (match fl with | .ret v => v | _ => .none) s'
      let ek : Value → Shared → Prop := fun e s' => wpAny (model PySem.Challenge.rw_np0108_01.row.prog w) A₁ (leaving (envOfC qual scope L₁ f cdv) e) (fun _ s'' => E e s'') (fun e' s'' => E e' s'') s'
      let gk : Prop := wpAny (model PySem.Challenge.rw_np0108_01.row.prog w) A₁ (execs body (envOfC qual scope L₁ f cdv)) qk ek ⟨h₁, sg, sd, tk, so⟩
      gk) : CtP K w f Pre dd uu vals Post := by
  intro p loose mean mg mb dp un gd env outer A₀ base h₀ L m sh sg sd st so Q E B F X T hf hk' hp hdp hu hret
  exact enter_cells (s := ⟨sh, sg, sd, st, so⟩) B F X T rfl hf hk' ho hcd (show dp < recursionLimit by omega) hbind hkind hnd (fun L₁ h₁ tk cells F₁ N₁ Y₁ B₁ X₁ T₁ => h p loose mean mg mb dp un gd env outer base sh sg sd so Q E hdp hu hp hret L₁ h₁ tk cells F₁ N₁ Y₁ B₁ X₁ T₁) hco hgen hk
theorem CtM.mkP (ho : (K w.params).lookup f = some ⟨oc, od, .func (fnOf name qual params body scope dV kV doc pm an cdv ct), osl⟩) (hcd : codeIn (K w.params) cdv qual = true)
    (hbind : bindArgs (fnOf name qual params body scope dV kV doc pm an cdv ct) ⟨vals, []⟩ = pure ((params.args.map (·.arg)).zip vals)) (hloc : ∀ y ∈ (params.args.map (·.arg)).zip vals, scope.names.lookup y.1 = some .local) (hz : ((params.args.map (·.arg)).zip vals).reverse = zl)
    (hco : scope.isCoroutine = false) (hgen : scope.isGenerator = false) (hk : scope.kind = .function) (hcell : ∀ x ∈ scope.names, x.2 ≠ .cell)
    (h : ∀ (p : Program) (loose : List Str) (mean : ExcName → Option Value) (mg mb : Str → Option Value) (dp un : Nat) (gd : Option (List Code)) (env : Env) (outer : List Env) (base sh : Heap) (sg : Array GenState) (sd : Drawn) (so : OsState) (Q E : Value → Shared → Prop),
      dp + dd < recursionLimit → un + uu < cLine → ∀ (g₁ : Heap) (L₁ : Addr) (h₁ : Heap) (tk : Nat), let mm : Str → Option Value := fun y => zl.lookup y; let nw := own
      Fr g₁ L₁ h₁ mm → News g₁ L₁ h₁ nw → Below (kTop dp un gd env outer) base (env :: outer) g₁ → (K w.params).In g₁ → Top p loose mean mg mb g₁ → GSub sh g₁ (own.map (·.1)) → AllLt L₁ nw → Pre g₁ →
      (∀ (v : Value) (h' : Heap) (tk' : Nat) (m' : Str → Option Value), Fr g₁ L₁ h' m' → Post sh h' v → Q v ⟨h', sg, sd, tk', so⟩) →
      let A₁ := (kTop dp un gd env outer).deeper (envOf qual scope L₁ f cdv); let qk : Flow → Shared → Prop := fun fl s' => Q (match fl with | .ret v => v | _ => .none) s'
      let ek : Value → Shared → Prop := fun e s' => wpAny (model PySem.Challenge.rw_np0108_01.row.prog w) A₁ (leaving (envOf qual scope L₁ f cdv) e) (fun _ s'' => E e s'') (fun e' s'' => E e' s'') s'
      let gk : Prop := wpAny (model PySem.Challenge.rw_np0108_01.row.prog w) A₁ (execs body (envOf qual scope L₁ f cdv)) qk ek ⟨h₁, sg, sd, tk, so⟩
      gk) : CtM K w f Pre dd uu vals own Post := by
  subst hz
  intro p loose mean mg mb dp un gd env outer A₀ base h₀ L m sh sg sd st so Q E B F X T hf hk' NO hp hdp hu hret
  exact enterO_plain (s := ⟨sh, sg, sd, st, so⟩) B F X NO T rfl hf hk' ho hcd (show dp < recursionLimit by omega) hbind hloc
    (fun g L₁ h₁ tk F₁ N₁ B₁ X₁ T₁ G₁ lt₁ => h p loose mean mg mb dp un gd env outer base sh sg sd so Q E hdp hu g L₁ h₁ tk F₁ N₁ B₁ X₁ T₁ G₁ (allLt_of lt₁) (hp g G₁) fun v h' tk' m' F' => hret v h' tk' (gsub_of G₁ F')) hco hgen hk hcell
theorem CtM.mkC (ho : (K w.params).lookup f = some ⟨oc, od, .func (fnOf name qual params body scope dV kV doc pm an cdv ct), osl⟩) (hcd : codeIn (K w.params) cdv qual = true)
    (hbind : bindArgs (fnOf name qual params body scope dV kV doc pm an cdv ct) ⟨vals, []⟩ = pure ((params.args.map (·.arg)).zip vals))
    (hkind : (((params.args.map (·.arg)).zip vals).all fun y => scope.names.lookup y.1 == some .local || scope.names.lookup y.1 == some .cell) = true) (hnd : ((cellsFrom 0 scope.names []).map (·.1)).Nodup)
    (hco : scope.isCoroutine = false) (hgen : scope.isGenerator = false) (hk : scope.kind = .function)
    (h : ∀ (p : Program) (loose : List Str) (mean : ExcName → Option Value) (mg mb : Str → Option Value) (dp un : Nat) (gd : Option (List Code)) (env : Env) (outer : List Env) (base sh : Heap) (sg : Array GenState) (sd : Drawn) (so : OsState) (Q E : Value → Shared → Prop),
      dp + dd < recursionLimit → un + uu < cLine → ∀ (g₁ : Heap) (L₁ : Addr) (h₁ : Heap) (tk : Nat) (cells : List (Addr × Obj)), let mm : Str → Option Value := bindL (envOfC qual scope L₁ f cdv).kindOf ((params.args.map (·.arg)).zip vals) fun _ => none
      Fr g₁ L₁ h₁ mm → News g₁ L₁ h₁ (cells ++ own) → CellsAre (bindC (envOfC qual scope L₁ f cdv).kindOf ((params.args.map (·.arg)).zip vals) fun _ => none) (cellsFrom (L₁ + 1) scope.names []) cells → Below (kTop dp un gd env outer) base (env :: outer) g₁ → (K w.params).In g₁ → Top p loose mean mg mb g₁ →
      GSub sh g₁ (own.map (·.1)) → AllLt L₁ own → Pre g₁ → (∀ (v : Value) (h' : Heap) (tk' : Nat) (m' : Str → Option Value), Fr g₁ L₁ h' m' → Post sh h' v → Q v ⟨h', sg, sd, tk', so⟩) →
      let A₁ := (kTop dp un gd env outer).deeper (envOfC qual scope L₁ f cdv); let qk : Flow → Shared → Prop := fun fl s' => Q (match fl with | .ret v => v | _ => .none) s'
      let ek : Value → Shared → Prop := fun e s' => wpAny (model PySem.Challenge.rw_np0108_01.row.prog w) A₁ (leaving (envOfC qual scope L₁ f cdv) e) (fun _ s'' => E e s'') (fun e' s'' => E e' s'') s'
      let gk : Prop := wpAny (model PySem.Challenge.rw_np0108_01.row.prog w) A₁ (execs body (envOfC qual scope L₁ f cdv)) qk ek ⟨h₁, sg, sd, tk, so⟩
      gk) : CtM K w f Pre dd uu vals own Post := by
  intro p loose mean mg mb dp un gd env outer A₀ base h₀ L m sh sg sd st so Q E B F X T hf hk' NO hp hdp hu hret
  exact enterO_cells (s := ⟨sh, sg, sd, st, so⟩) B F X NO T rfl hf hk' ho hcd (show dp < recursionLimit by omega) hbind hkind hnd
    (fun g L₁ h₁ tk cells F₁ N₁ Y₁ B₁ X₁ T₁ G₁ lt₁ => h p loose mean mg mb dp un gd env outer base sh sg sd so Q E hdp hu g L₁ h₁ tk cells F₁ N₁ Y₁ B₁ X₁ T₁ G₁ (allLt_of lt₁) (hp g G₁) fun v h' tk' m' F' => hret v h' tk' (gsub_of G₁ F')) hco hgen hk
end
theorem InstAt.of_mix {h₀ h : Heap} {L x C dx : Addr} {m : Str → Option Value} {news : List (Addr × Obj)} {od : Obj} {sl : Array (Option Value)} (F : Fr h₀ L h m) (N : News h₀ L h news) (h1 : h₀.get? x = some (⟨.ref C, some dx, .plain, sl⟩ : Obj)) (h2 : (dx, od) ∈ news) :
    InstAt h x ⟨.ref C, some dx, .plain, sl⟩ C (some od) := ⟨F.keep _ _ h1, rfl, rfl, (N _ h2).1⟩
section
variable {prog : Program} {w : World} {A : Around} {E : Value → Shared → Prop} {s : Shared} {env : Env} {h₀ : Heap} {x xi xc : Str} {body : List Stmt} {Q : Flow → Shared → Prop}
-- the state between the turns of a loop that keeps its ledger and turns the names 'stored' alone
noncomputable def PlainJ (xs stored : List Str) (m₀ : Str → Option Value) (news : List (Addr × Obj)) (p : Prop) (m : Str → Option Value) (nx : List (Addr × Obj)) : Prop :=
  nx = news ∧ (∀ z, xs.contains z = false → stored.contains z = false → m z = m₀ z) ∧ p
theorem plain_fr1 {L : Addr} {h : Heap} {stored : List Str} {m₀ m₁ : Str → Option Value} {v : Value} (h2 : ∀ z, [x].contains z = false → stored.contains z = false → m₁ z = m₀ z)
    (F : Fr h₀ L h (fun y => if y = x then some v else m₁ y)) : Fr h₀ L h (fun y => if y = x then some v else if stored.contains y then m₁ y else m₀ y) := by
  have e : (fun y => if y = x then some v else if stored.contains y then m₁ y else m₀ y) = fun y => if y = x then some v else m₁ y := by
    funext y
    by_cases h1 : y = x
    · simp [h1]
    · cases h3 : stored.contains y with
      | true => simp [h1]
      | false => simp only [if_neg h1, Bool.false_eq_true, if_false]; exact (h2 y (by simp [h1]) h3).symm
  rw [e]; exact F
theorem plain_fr0 {L : Addr} {h : Heap} {stored : List Str} {m₀ m₁ : Str → Option Value} (h2 : ∀ z, [x].contains z = false → stored.contains z = false → m₁ z = m₀ z)
    (F : Fr h₀ L h m₁) : Fr h₀ L h (fun y => if y = x then m₁ y else if stored.contains y then m₁ y else m₀ y) := by
  have e : (fun y => if y = x then m₁ y else if stored.contains y then m₁ y else m₀ y) = m₁ := by
    funext y
    by_cases h1 : y = x
    · simp [h1]
    · cases h3 : stored.contains y with
      | true => simp [h1]
      | false => simp only [if_neg h1, Bool.false_eq_true, if_false]; exact (h2 y (by simp [h1]) h3).symm
  rw [e]; exact F
theorem plain_fr2 {L : Addr} {h : Heap} {stored : List Str} {m₀ m₁ : Str → Option Value} {v v' : Value} (h2 : ∀ z, [xi, xc].contains z = false → stored.contains z = false → m₁ z = m₀ z)
    (F : Fr h₀ L h (fun y => if y = xc then some v else if y = xi then some v' else m₁ y)) : Fr h₀ L h (fun y => if y = xc then some v else if y = xi then some v' else if stored.contains y then m₁ y else m₀ y) := by
  have e : (fun y => if y = xc then some v else if y = xi then some v' else if stored.contains y then m₁ y else m₀ y) = fun y => if y = xc then some v else if y = xi then some v' else m₁ y := by
    funext y
    by_cases h1 : y = xc
    · simp [h1]
    · by_cases h4 : y = xi
      · simp [h4]
      · cases h3 : stored.contains y with
        | true => simp [h1, h4]
        | false => simp only [if_neg h1, if_neg h4, Bool.false_eq_true, if_false]; exact (h2 y (by simp [h1, h4]) h3).symm
  rw [e]; exact F
theorem plain_fr2d {L : Addr} {h : Heap} {stored : List Str} {m₀ m₁ : Str → Option Value} (h2 : ∀ z, [xi, xc].contains z = false → stored.contains z = false → m₁ z = m₀ z)
    (F : Fr h₀ L h m₁) : Fr h₀ L h (fun y => if y = xc then m₁ y else if y = xi then m₁ y else if stored.contains y then m₁ y else m₀ y) := by
  have e : (fun y => if y = xc then m₁ y else if y = xi then m₁ y else if stored.contains y then m₁ y else m₀ y) = m₁ := by
    funext y
    by_cases h1 : y = xc
    · simp [h1]
    · by_cases h4 : y = xi
      · simp [h4]
      · cases h3 : stored.contains y with
        | true => simp [h1, h4]
        | false => simp only [if_neg h1, if_neg h4, Bool.false_eq_true, if_false]; exact (h2 y (by simp [h1, h4]) h3).symm
  rw [e]; exact F
-- the end of a turn
theorem plain_end {xs stored : List Str} {m₀ : Str → Option Value} {news : List (Addr × Obj)} {p : Prop} {L : Addr} {m' : Str → Option Value} {own news' : List (Addr × Obj)} {adr : List Addr} {s₁ : Shared} {h' : Heap} {tk : Nat}
    (F : Fr h₀ L h' m') (N : News h₀ L h' news') (ha : news.map (·.1) = adr) (hn : ∀ q ∈ news, q ∈ news') (ho : ∀ q ∈ own, q ∈ news') (hm : ∀ z, xs.contains z = false → stored.contains z = false → m' z = m₀ z) (hp : p) :
    InvEndN h₀ L (PlainJ xs stored m₀ news p) own adr s₁ { s₁ with heap := h', toks := tk } := InvEndN.intro F N ⟨rfl, hm, hp⟩ ha hn ho

theorem pair_plain {as : List Int} {xv : Value} {m : Str → Option Value} {news : List (Addr × Obj)} (stored : List Str) (P : Nat → Prop) (S : PairSrc prog w A E h₀ env ItemKind.int as xv s m news) (hp : P 0)
    (turn : ∀ (i : Nat) a t tv (u : Str → Option Value) h tk own, as[i]? = some a → P i → OwnOff own (news.map (·.1)) → Fr h₀ env.locals h (fun y => if y = xc then some (.int a tv) else if y = xi then some (.int i t) else if stored.contains y then u y else m y) → News h₀ env.locals h (news ++ own) →
      wpAny (model prog w) A (execs body env) (InvPostN h₀ env.locals (PlainJ [xi, xc] stored m news (P (i + 1))) own (news.map (·.1)) { s with heap := h, toks := tk } Q) E { s with heap := h, toks := tk })
    (done : ∀ (u : Str → Option Value) h tk, P as.length → Fr h₀ env.locals h (fun y => if y = xc then u y else if y = xi then u y else if stored.contains y then u y else m y) → News h₀ env.locals h news → Q .next { s with heap := h, toks := tk }) :
    wpAny (model prog w) A (pyIter xv) (fun it s₂ => PairAt3 prog w A h₀ env xi xc body Q E it s₂) E s := by
  refine S xi xc body Q (fun i m₁ nx => PlainJ [xi, xc] stored m news (P i) m₁ nx) ⟨rfl, fun _ _ _ => rfl, hp⟩ ?_ ?_
  · rintro i a t v m₁ news₁ s₁ own ⟨h, tk, rfl⟩ ha hk ⟨rfl, hm, hP⟩ _ hoff F N
    obtain ⟨tv, rfl⟩ := ItemKind.int_is hk
    have hoff' : OwnOff own (news₁.map (·.1)) := fun p hp b hb => by
      obtain ⟨q, hq, rfl⟩ := List.mem_map.mp hb
      exact hoff p hp q hq
    refine wpAny_mono (turn i a t tv m₁ h tk own ha hP hoff' (plain_fr2 hm F) fun p hp => N p ((List.mem_append.mp hp).elim (fun h => List.mem_append.mpr (.inr h)) fun h => List.mem_append.mpr (.inl h))) (fun f s₂ z => ?_) fun _ _ e => e
    have fin : InvEndN h₀ env.locals (PlainJ [xi, xc] stored m news₁ (P (i + 1))) own (news₁.map (·.1)) { s with heap := h, toks := tk } s₂ → LoopStep2 h₀ env.locals own news₁ (fun m₁ nx => PlainJ [xi, xc] stored m news₁ (P (i + 1)) m₁ nx) { s with heap := h, toks := tk } .next s₂ := by
      rintro ⟨h', tk', m', news', nx, rfl, F', N', hn, ho, ha', hm'⟩
      exact ⟨rfl, h', tk', m', nx, rfl, F', fun p hp => N' p ((List.mem_append.mp hp).elim (ho p) (hn p)), ha', hm'⟩
    cases f with
    | ret v => exact z
    | brk => exact z
    | next => exact fin z
    | cont => exact fin z
  · rintro h' tk m' news' F' N' _ ⟨rfl, hm, hP⟩
    exact done m' h' tk hP (plain_fr2d hm F') N'

theorem range_plain {r : Addr} {a₀ b₀ : Int} {t₀ u₀ v₀ : Tok} {m₀ : Str → Option Value} {news : List (Addr × Obj)} (n : Nat) (stored : List Str) (P : Nat → Prop)
    (hh : A.handled = none) (hr : IsRange s.heap r a₀ b₀ 1 t₀ u₀ v₀) (hsmall : Builtin.Range.small a₀ b₀ 1 = true) (hn : (b₀ - a₀).toNat = n) (F : Fr h₀ env.locals s.heap m₀) (N : News h₀ env.locals s.heap news) (hp : P 0)
    (turn : ∀ (i : Nat) t (u : Str → Option Value) h tk own, i < n → P i → OwnOff own (news.map (·.1)) → Fr h₀ env.locals h (fun y => if y = x then some (.int (a₀ + i) t) else if stored.contains y then u y else m₀ y) → News h₀ env.locals h (news ++ own) →
      wpAny (model prog w) A (execs body env) (InvPostN h₀ env.locals (PlainJ [x] stored m₀ news (P (i + 1))) own (news.map (·.1)) { s with heap := h, toks := tk } Q) E { s with heap := h, toks := tk })
    (done : ∀ (u : Str → Option Value) h tk, P n → Fr h₀ env.locals h (fun y => if y = x then u y else if stored.contains y then u y else m₀ y) → News h₀ env.locals h news → Q .next { s with heap := h, toks := tk }) :
    wpAny (model prog w) A (pyIter (.ref r)) (fun it s₂ => LoopAtV prog w A h₀ env x body Q E it s₂) E s := by
  have hn' : Builtin.Range.rangeSize a₀ b₀ 1 = (n : Int) := by rw [rangeSize_nat, hn]
  refine wpAny_pyIter_range hr hsmall ?_
  have W : Walks prog w A s.heap.objs.size [s.heap.objs.size] [s.heap.objs.size] n (fun i v => i < n ∧ ∃ t, v = .int (a₀ + i * 1) t)
      (fun i h => IsRangeIter h s.heap.objs.size (a₀ + (i : Nat) * 1) ((n : Int) - (i : Nat)) 1) := (Walks.range hh _ a₀ 1 n).bound
  refine loop_invN (fun i m nx => PlainJ [x] stored m₀ news (P i) m nx) W ?_ ?_ ?_ ?_ (by show IsRangeIter _ _ _ _ _; rw [hn']; simpa using Heap.get?_push_size _ rfl) (F.push _) (fun p hp => ⟨Heap.get?_push_of_some _ (N p hp).1, (N p hp).2⟩) ⟨rfl, fun _ _ _ => rfl, hp⟩ ?_ ?_
  · intro hm
    exact absurd F.ns.lt ((List.mem_singleton.mp hm) ▸ Nat.lt_irrefl _)
  · intro b hb
    rw [List.mem_singleton.mp hb]
    exact next_is_new F
  · intro p hp hI
    exact absurd (Heap.lt_size (N p hp).1) ((List.mem_singleton.mp hI) ▸ Nat.lt_irrefl _)
  · intro p hp hI
    exact absurd (Heap.lt_size (N p hp).1) ((List.mem_singleton.mp hI) ▸ Nat.lt_irrefl _)
  · rintro i v m₁ nx h tk own hi ⟨_, t, rfl⟩ _ hoff ⟨rfl, hm, hP⟩ F₁ N₁
    have e1 : a₀ + (i : Int) * 1 = a₀ + (i : Int) := by omega
    rw [e1] at F₁
    exact turn i t m₁ h tk own hi hP hoff (plain_fr1 hm F₁) N₁
  · rintro m₁ nx h tk ⟨rfl, hm, hP⟩ F₁ N₁
    exact done m₁ h tk hP (plain_fr0 hm F₁) N₁
theorem range_down {r : Addr} {a₀ b₀ : Int} {t₀ u₀ v₀ : Tok} {m₀ : Str → Option Value} {news : List (Addr × Obj)} (n : Nat) (stored : List Str) (P : Nat → Prop)
    (hh : A.handled = none) (hr : IsRange s.heap r a₀ b₀ (-1) t₀ u₀ v₀) (hsmall : Builtin.Range.small a₀ b₀ (-1) = true) (hn : (a₀ - b₀).toNat = n) (F : Fr h₀ env.locals s.heap m₀) (N : News h₀ env.locals s.heap news) (hp : P 0)
    (turn : ∀ (i : Nat) t (u : Str → Option Value) h tk own, i < n → P i → OwnOff own (news.map (·.1)) → Fr h₀ env.locals h (fun y => if y = x then some (.int (a₀ - i) t) else if stored.contains y then u y else m₀ y) → News h₀ env.locals h (news ++ own) →
      wpAny (model prog w) A (execs body env) (InvPostN h₀ env.locals (PlainJ [x] stored m₀ news (P (i + 1))) own (news.map (·.1)) { s with heap := h, toks := tk } Q) E { s with heap := h, toks := tk })
    (done : ∀ (u : Str → Option Value) h tk, P n → Fr h₀ env.locals h (fun y => if y = x then u y else if stored.contains y then u y else m₀ y) → News h₀ env.locals h news → Q .next { s with heap := h, toks := tk }) :
    wpAny (model prog w) A (pyIter (.ref r)) (fun it s₂ => LoopAtV prog w A h₀ env x body Q E it s₂) E s := by
  have hn' : Builtin.Range.rangeSize a₀ b₀ (-1) = (n : Int) := by rw [rangeSize_downNat, hn]
  refine wpAny_pyIter_range hr hsmall ?_
  have W : Walks prog w A s.heap.objs.size [s.heap.objs.size] [s.heap.objs.size] n (fun i v => i < n ∧ ∃ t, v = .int (a₀ + i * (-1)) t)
      (fun i h => IsRangeIter h s.heap.objs.size (a₀ + (i : Nat) * (-1)) ((n : Int) - (i : Nat)) (-1)) := (Walks.range hh _ a₀ (-1) n).bound
  refine loop_invN (fun i m nx => PlainJ [x] stored m₀ news (P i) m nx) W ?_ ?_ ?_ ?_ (by show IsRangeIter _ _ _ _ _; rw [hn']; simpa using Heap.get?_push_size _ rfl) (F.push _) (fun p hp => ⟨Heap.get?_push_of_some _ (N p hp).1, (N p hp).2⟩) ⟨rfl, fun _ _ _ => rfl, hp⟩ ?_ ?_
  · intro hm
    exact absurd F.ns.lt ((List.mem_singleton.mp hm) ▸ Nat.lt_irrefl _)
  · intro b hb
    rw [List.mem_singleton.mp hb]
    exact next_is_new F
  · intro p hp hI
    exact absurd (Heap.lt_size (N p hp).1) ((List.mem_singleton.mp hI) ▸ Nat.lt_irrefl _)
  · intro p hp hI
    exact absurd (Heap.lt_size (N p hp).1) ((List.mem_singleton.mp hI) ▸ Nat.lt_irrefl _)
  · rintro i v m₁ nx h tk own hi ⟨_, t, rfl⟩ _ hoff ⟨rfl, hm, hP⟩ F₁ N₁
    have e1 : a₀ + (i : Int) * (-1) = a₀ - (i : Int) := by omega
    rw [e1] at F₁
    exact turn i t m₁ h tk own hi hP hoff (plain_fr1 hm F₁) N₁
  · rintro m₁ nx h tk ⟨rfl, hm, hP⟩ F₁ N₁
    exact done m₁ h tk hP (plain_fr0 hm F₁) N₁

-- the end of a turn whose ledger may grow
noncomputable def EndX (h₀ : Heap) (L : Addr) (J : (Str → Option Value) → List (Addr × Obj) → Prop) (I : Addr) (oI : Obj) (s₁ s₂ : Shared) : Prop :=
  ∃ h' tk m' nx, s₂ = { s₁ with heap := h', toks := tk } ∧ Fr h₀ L h' m' ∧ News h₀ L h' ((I, oI) :: nx) ∧ (∀ q ∈ nx, q.1 ≠ I) ∧ J m' nx
noncomputable def PostX (h₀ : Heap) (L : Addr) (J : (Str → Option Value) → List (Addr × Obj) → Prop) (I : Addr) (oI : Obj) (s₁ : Shared) (Q : Flow → Shared → Prop) (f : Flow) (s₂ : Shared) : Prop :=
  match f with
  | .ret v => Q (.ret v) s₂
  | .brk => Q .next s₂
  | _ => EndX h₀ L J I oI s₁ s₂
theorem range_X {r : Addr} {a₀ b₀ : Int} {t₀ u₀ v₀ : Tok} {m₀ : Str → Option Value} {news : List (Addr × Obj)} (n : Nat) (J : Nat → (Str → Option Value) → List (Addr × Obj) → Prop)
    (hh : A.handled = none) (hr : IsRange s.heap r a₀ b₀ 1 t₀ u₀ v₀) (hsmall : Builtin.Range.small a₀ b₀ 1 = true) (hn : (b₀ - a₀).toNat = n) (F : Fr h₀ env.locals s.heap m₀) (N : News h₀ env.locals s.heap news) (hp : J 0 m₀ news)
    (turn : ∀ (i : Nat) t m₁ nx h tk I oI, i < n → J i m₁ nx → (∀ q ∈ nx, q.1 ≠ I) → Fr h₀ env.locals h (fun y => if y = x then some (.int (a₀ + i) t) else m₁ y) → News h₀ env.locals h ((I, oI) :: nx) →
      wpAny (model prog w) A (execs body env) (PostX h₀ env.locals (J (i + 1)) I oI { s with heap := h, toks := tk } Q) E { s with heap := h, toks := tk })
    (done : ∀ m₁ nx h tk, J n m₁ nx → Fr h₀ env.locals h m₁ → News h₀ env.locals h nx → Q .next { s with heap := h, toks := tk }) :
    wpAny (model prog w) A (pyIter (.ref r)) (fun it s₂ => LoopAtV prog w A h₀ env x body Q E it s₂) E s := by
  have hn' : Builtin.Range.rangeSize a₀ b₀ 1 = (n : Int) := by rw [rangeSize_nat, hn]
  refine wpAny_pyIter_range hr hsmall ?_
  have W : Walks prog w A s.heap.objs.size [s.heap.objs.size] [s.heap.objs.size] n (fun i v => i < n ∧ ∃ t, v = .int (a₀ + i * 1) t)
      (fun i h => IsRangeIter h s.heap.objs.size (a₀ + (i : Nat) * 1) ((n : Int) - (i : Nat)) 1) := (Walks.range hh _ a₀ 1 n).bound
  refine ⟨_, _, _, n, _, _, m₀, news, J, rfl, W, ?_, ?_, ?_, (by show IsRangeIter _ _ _ _ _; rw [hn']; simpa using Heap.get?_push_size _ rfl), F.push _, (fun p hp => ⟨Heap.get?_push_of_some _ (N p hp).1, (N p hp).2⟩), hp, ?_, ?_⟩
  · intro hm
    exact absurd F.ns.lt ((List.mem_singleton.mp hm) ▸ Nat.lt_irrefl _)
  · intro b hb
    rw [List.mem_singleton.mp hb]
    exact next_is_new F
  · intro p hp hI
    exact absurd (Heap.lt_size (N p hp).1) ((List.mem_singleton.mp hI) ▸ Nat.lt_irrefl _)
  · rintro i v m₁ nx s₁ own ⟨h, tk, rfl⟩ hi ⟨_, t, rfl⟩ hJ hoff hown hall hsub hst F₁ N₁
    have e1 : a₀ + (i : Int) * 1 = a₀ + (i : Int) := by omega
    rw [e1] at F₁
    have hI : ∃ oI, h.get? s.heap.objs.size = some oI := by
      have h5 : IsRangeIter h s.heap.objs.size (a₀ + ((i + 1 : Nat) : Int) * 1) ((n : Int) - ((i + 1 : Nat) : Int)) 1 := hst
      exact ⟨_, h5⟩
    obtain ⟨oI, hoI⟩ := hI
    have hmem : (s.heap.objs.size, oI) ∈ own := hsub _ (List.mem_singleton.mpr rfl) (next_is_new F) _ hoI
    have hnx : ∀ q ∈ nx, q.1 ≠ s.heap.objs.size := fun q hq e => hoff q hq (e ▸ List.mem_singleton.mpr rfl)
    have N₂ : News h₀ env.locals h ((s.heap.objs.size, oI) :: nx) := fun q hq => by
      rcases List.mem_cons.mp hq with rfl | hq
      · exact N₁ _ (List.mem_append.mpr (.inl hmem))
      · exact N₁ _ (List.mem_append.mpr (.inr hq))
    refine wpAny_mono (turn i t m₁ nx h tk s.heap.objs.size oI hi hJ hnx F₁ N₂) (fun f s₂ p => ?_) fun _ _ e => e
    have fin : EndX h₀ env.locals (J (i + 1)) s.heap.objs.size oI { s with heap := h, toks := tk } s₂ → LoopStepU h₀ env.locals [s.heap.objs.size] own (J (i + 1)) { s with heap := h, toks := tk } .next s₂ := by
      rintro ⟨h', tk', m', nx', e, F', N', hoff', hJ'⟩
      refine ⟨rfl, h', tk', m', nx', e, F', fun p hp => ?_, fun p hp hI => hoff' p hp (List.mem_singleton.mp hI), hJ'⟩
      rcases List.mem_append.mp hp with hp | hp
      · have h1 := List.mem_singleton.mp (hown p hp)
        have h2 := hall p hp
        obtain ⟨pa, po⟩ := p
        subst h1
        have h3 : h.get? s.heap.objs.size = some po := h2
        rw [hoI] at h3; cases h3
        exact N' _ (.head _)
      · exact N' p (.tail _ hp)
    cases f with
    | ret v => exact .ret p
    | brk => exact .brk p
    | next => exact .next (fin p)
    | cont => exact .cont (fin p)
  · intro h' tk m' news' F' N' _ hJ
    exact done m' news' h' tk hJ F' N'
-- two stored names, a ledger that may grow ahead of the old one
noncomputable def J2 (xs : List Str) (y1 y2 : Str) (m₀ : Str → Option Value) (news : List (Addr × Obj)) (P : Value → Value → List (Addr × Obj) → Prop) (m : Str → Option Value) (nx : List (Addr × Obj)) : Prop :=
  (∀ z, xs.contains z = false → [y1, y2].contains z = false → m z = m₀ z) ∧ ∃ v1 v2 ex, m y1 = some v1 ∧ m y2 = some v2 ∧ nx = ex ++ news ∧ P v1 v2 ex
theorem j2_map {y1 y2 : Str} {m₀ m₁ : Str → Option Value} {v v1 v2 : Value} (h2 : ∀ z, [x].contains z = false → [y1, y2].contains z = false → m₁ z = m₀ z) (e1 : m₁ y1 = some v1) (e2 : m₁ y2 = some v2) :
    (fun y => if y = x then some v else m₁ y) = fun y => if y = x then some v else if y = y1 then some v1 else if y = y2 then some v2 else m₀ y := by
  funext y
  by_cases h1 : y = x
  · simp [h1]
  · by_cases h3 : y = y1
    · subst h3; simp [h1, e1]
    · by_cases h4 : y = y2
      · subst h4; simp [h1, h3, e2]
      · simp only [if_neg h1, if_neg h3, if_neg h4]; exact h2 y (by simp [h1]) (by simp [h3, h4])
theorem j2_map0 {y1 y2 : Str} {m₀ m₁ : Str → Option Value} {v1 v2 : Value} (h2 : ∀ z, [x].contains z = false → [y1, y2].contains z = false → m₁ z = m₀ z) (e1 : m₁ y1 = some v1) (e2 : m₁ y2 = some v2) :
    m₁ = fun y => if y = x then m₁ y else if y = y1 then some v1 else if y = y2 then some v2 else m₀ y := by
  funext y
  by_cases h1 : y = x
  · simp [h1]
  · by_cases h3 : y = y1
    · subst h3; simp [h1, e1]
    · by_cases h4 : y = y2
      · subst h4; simp [h1, h3, e2]
      · simp only [if_neg h1, if_neg h3, if_neg h4]; exact h2 y (by simp [h1]) (by simp [h3, h4])
theorem range_J2 {r : Addr} {a₀ b₀ : Int} {t₀ u₀ v₀ : Tok} {m₀ : Str → Option Value} {news : List (Addr × Obj)} (n : Nat) (y1 y2 : Str) {w1 w2 : Value} (P : Nat → Value → Value → List (Addr × Obj) → Prop)
    (hh : A.handled = none) (hr : IsRange s.heap r a₀ b₀ 1 t₀ u₀ v₀) (hsmall : Builtin.Range.small a₀ b₀ 1 = true) (hn : (b₀ - a₀).toNat = n) (F : Fr h₀ env.locals s.heap m₀) (N : News h₀ env.locals s.heap news) (e1 : m₀ y1 = some w1) (e2 : m₀ y2 = some w2) (hp : P 0 w1 w2 [])
    (turn : ∀ (i : Nat) t v1 v2 ex h tk I oI, i < n → P i v1 v2 ex → (∀ q ∈ ex ++ news, q.1 ≠ I) → Fr h₀ env.locals h (fun y => if y = x then some (.int (a₀ + i) t) else if y = y1 then some v1 else if y = y2 then some v2 else m₀ y) → News h₀ env.locals h ((I, oI) :: (ex ++ news)) →
      wpAny (model prog w) A (execs body env) (PostX h₀ env.locals (J2 [x] y1 y2 m₀ news (P (i + 1))) I oI { s with heap := h, toks := tk } Q) E { s with heap := h, toks := tk })
    (done : ∀ (u : Str → Option Value) v1 v2 ex h tk, P n v1 v2 ex → Fr h₀ env.locals h (fun y => if y = x then u y else if y = y1 then some v1 else if y = y2 then some v2 else m₀ y) → News h₀ env.locals h (ex ++ news) → Q .next { s with heap := h, toks := tk }) :
    wpAny (model prog w) A (pyIter (.ref r)) (fun it s₂ => LoopAtV prog w A h₀ env x body Q E it s₂) E s := by
  refine range_X n (fun i m nx => J2 [x] y1 y2 m₀ news (P i) m nx) hh hr hsmall hn F N ⟨fun _ _ _ => rfl, w1, w2, [], e1, e2, rfl, hp⟩ ?_ ?_
  · rintro i t m₁ nx h tk I oI hi ⟨hm, v1, v2, ex, a1, a2, rfl, hP⟩ hoff F₁ N₁
    rw [j2_map hm a1 a2] at F₁
    exact turn i t v1 v2 ex h tk I oI hi hP hoff F₁ N₁
  · rintro m₁ nx h tk ⟨hm, v1, v2, ex, a1, a2, rfl, hP⟩ F₁ N₁
    rw [j2_map0 hm a1 a2] at F₁
    exact done m₁ v1 v2 ex h tk hP F₁ N₁
theorem j2_end {xs : List Str} {y1 y2 : Str} {m₀ m' : Str → Option Value} {news news' : List (Addr × Obj)} {P : Value → Value → List (Addr × Obj) → Prop} {L I : Addr} {oI : Obj} {s₁ : Shared} {h' : Heap} {tk : Nat} {v1 v2 : Value} (ex : List (Addr × Obj))
    (F : Fr h₀ L h' m') (N : News h₀ L h' news') (hI : (I, oI) ∈ news') (hn : ∀ q ∈ ex ++ news, q ∈ news') (hoff : ∀ q ∈ ex ++ news, q.1 ≠ I) (e1 : m' y1 = some v1) (e2 : m' y2 = some v2)
    (hm : ∀ z, xs.contains z = false → [y1, y2].contains z = false → m' z = m₀ z) (hP : P v1 v2 ex) : EndX h₀ L (J2 xs y1 y2 m₀ news P) I oI s₁ { s₁ with heap := h', toks := tk } :=
  ⟨h', tk, m', _, rfl, F, fun q hq => by
    rcases List.mem_cons.mp hq with rfl | hq
    · exact N _ hI
    · exact N _ (hn q hq), hoff, hm, v1, v2, ex, e1, e2, rfl, hP⟩
end
noncomputable def AllNe (d : Nat) : List (Addr × Obj) → Prop
  | [] => True
  | p :: r => @Ne Nat p.1 d ∧ AllNe d r
theorem allNe_of {d : Addr} : ∀ {l : List (Addr × Obj)}, (∀ p ∈ l, p.1 ≠ d) → AllNe d l
  | [], _ => trivial
  | _ :: _, h => ⟨h _ (.head _), allNe_of fun q hq => h q (.tail _ hq)⟩
theorem AllNe.ne {d x : Nat} {o : Obj} : ∀ {l : List (Addr × Obj)}, AllNe d l → (x, o) ∈ l → @Ne Nat x d
  | _ :: _, h, .head _ => h.1
  | _ :: _, h, .tail _ m => AllNe.ne h.2 m
theorem off3I {I C D x : Nat} {o : Obj} {l : List (Addr × Obj)} (h : LCg.Off3 I C D l) (m : (x, o) ∈ l) : @Ne Nat x I := (h.mem _ m).1
theorem off3C {I C D x : Nat} {o : Obj} {l : List (Addr × Obj)} (h : LCg.Off3 I C D l) (m : (x, o) ∈ l) : @Ne Nat x C := (h.mem _ m).2.1
theorem off3D {I C D x : Nat} {o : Obj} {l : List (Addr × Obj)} (h : LCg.Off3 I C D l) (m : (x, o) ∈ l) : @Ne Nat x D := (h.mem _ m).2.2
theorem off1D {D x : Nat} {o : Obj} : ∀ {l : List (Addr × Obj)}, LCg.Off1 D l → (x, o) ∈ l → @Ne Nat x D
  | _ :: _, h, .head _ => h.1
  | _ :: _, h, .tail _ m => off1D h.2 m
-- what a search gave comes onto the ledger
theorem PF.onto {o : Option (Int × Int)} {h₀ h h' : Heap} {L : Addr} {m : Str → Option Value} {v : Value} {news : List (Addr × Obj)} (Fo : Fr h₀ L h m) (No : News h₀ L h news) (N : News h₀ L h' news) (P : PF o h h' v) :
    (o = none ∧ v = .none) ∨ ∃ (a b : Int) (l t : Addr) (ta tb : Tok) (n1 n2 : Nat), o = some (a, b) ∧ v = .ref l ∧ News h₀ L h' ((l, listOf #[.ref t] n1) :: (t, tupOf #[.int a ta, .int b tb] n2) :: news) ∧ @Ne Nat t l ∧ AllNe l news ∧ AllNe t news := by
  cases o with
  | none => exact .inl ⟨rfl, P⟩
  | some p =>
    obtain ⟨l, t, ta, tb, n1, n2, rfl, e1, e2, f2, f1, ne⟩ := P
    have fr : ∀ {x}, h.get? x = none → x ≠ L ∧ h₀.get? x = none := fun {x} e => by
      constructor
      · rintro rfl
        obtain ⟨oL, _, _, hL, _⟩ := Fo.ns
        rw [hL] at e; cases e
      · cases q : h₀.get? x with
        | none => rfl
        | some o => rw [Fo.keep _ _ q] at e; cases e
    have nn : ∀ {x}, h.get? x = none → AllNe x news := fun {x} e => allNe_of fun q hq e2 => by rw [← e2, (No q hq).1] at e; cases e
    exact .inr ⟨p.1, p.2, l, t, ta, tb, n1, n2, rfl, rfl, news_put (news_put N e2 (fr f2)) e1 (fr f1), ne, nn f1, nn f2⟩
-- a search, so many times
noncomputable def often (f : Int → Option (Int × Int)) (nx : Int × Int → Int) : Nat → Int → Option (Int × Int) → Option (Int × Int)
  | 0, _, r => r
  | n + 1, p, _ => match f p with
    | none => none
    | some q => often f nx n (nx q) (some q)
-- what stands between its turns
noncomputable def OftP (f : Int → Option (Int × Int)) (nx : Int × Int → Int) (n : Nat) (p₀ : Int) (Ok : Int → Prop) (i : Nat) (vp vf : Value) (ex : List (Addr × Obj)) : Prop :=
  ∃ (p : Int) (t : Tok) (r : Option (Int × Int)), vp = .int p t ∧ Ok p ∧ often f nx n p₀ none = often f nx (n - i) p r ∧
    match r with
    | none => vf = .none
    | some q => ∃ (l t : Addr) (ta tb : Tok) (n1 n2 : Nat), vf = .ref l ∧ (l, listOf #[.ref t] n1) ∈ ex ∧ (t, tupOf #[.int q.1 ta, .int q.2 tb] n2) ∈ ex ∧ t ≠ l
theorem OftP.zero {f : Int → Option (Int × Int)} {nx : Int × Int → Int} {n : Nat} {p₀ : Int} {Ok : Int → Prop} {t : Tok} {ex : List (Addr × Obj)} (h : Ok p₀) : OftP f nx n p₀ Ok 0 (.int p₀ t) .none ex := ⟨p₀, t, none, rfl, h, rfl, rfl⟩
theorem often_none {f : Int → Option (Int × Int)} {nx : Int × Int → Int} {n i : Nat} {p : Int} {r : Option (Int × Int)} (hi : i < n) (e : f p = none) : often f nx (n - i) p r = none := by
  obtain ⟨k, hk⟩ : ∃ k, n - i = k + 1 := ⟨n - i - 1, by omega⟩
  rw [hk]; unfold often; rw [e]
theorem often_some {f : Int → Option (Int × Int)} {nx : Int × Int → Int} {n i : Nat} {p : Int} {r : Option (Int × Int)} {q : Int × Int} (hi : i < n) (e : f p = some q) : often f nx (n - i) p r = often f nx (n - (i + 1)) (nx q) (some q) := by
  obtain ⟨k, hk⟩ : ∃ k, n - i = k + 1 := ⟨n - i - 1, by omega⟩
  rw [hk, show n - (i + 1) = k by omega]; conv => lhs; unfold often
  rw [e]
theorem OftP.done {f : Int → Option (Int × Int)} {nx : Int × Int → Int} {n : Nat} {p₀ : Int} {Ok : Int → Prop} {vp vf : Value} {ex news : List (Addr × Obj)} {h₀ h h' : Heap} {L : Addr} (P : OftP f nx n p₀ Ok n vp vf ex) (S : h.StaysIn h₀) (N : News h₀ L h' (ex ++ news)) : PF (often f nx n p₀ none) h h' vf := by
  obtain ⟨p, t, r, _, _, e, P⟩ := P
  rw [e, Nat.sub_self]; unfold often
  cases r with
  | none => exact P
  | some q =>
    obtain ⟨l, t, ta, tb, n1, n2, rfl, m1, m2, ne⟩ := P
    have fresh : ∀ {x o}, (x, o) ∈ ex → h.get? x = none := fun {x o} hm => by
      cases e : h.get? x with
      | none => rfl
      | some o' => have := S _ _ e; rw [N.fresh (List.mem_append_left _ hm)] at this; cases this
    exact ⟨l, t, ta, tb, n1, n2, rfl, N.get (List.mem_append_left _ m1), N.get (List.mem_append_left _ m2), fresh m2, fresh m1, ne⟩
theorem abs_ite {c : Int} : (if c < 0 then -c else c) = (c.natAbs : Int) := by split <;> omega
theorem News.mono' {h₀ h : Heap} {L : Addr} {p : Addr × Obj} {ex news : List (Addr × Obj)} (N : News h₀ L h (p :: (ex ++ news))) : News h₀ L h (p :: news) := fun q hq => N q (by
  rcases List.mem_cons.mp hq with rfl | hq
  · exact .head _
  · exact .tail _ (List.mem_append_right _ hq))
section
variable {prog : Program} {w : World} {A : Around} {E : Value → Shared → Prop} {s : Shared} {env : Env} {h₀ : Heap} {x : Str} {body : List Stmt} {Q : Flow → Shared → Prop}
-- the state between the turns of a loop: a part of the ledger is told by a state of its own, the names 'stored' are forgotten
noncomputable def JS {σ : Type} (xs stored : List Str) (m₀ : Str → Option Value) (own : σ → List (Addr × Obj)) (news : List (Addr × Obj)) (p : σ → Prop) (m : Str → Option Value) (nx : List (Addr × Obj)) : Prop :=
  (∀ z, xs.contains z = false → stored.contains z = false → m z = m₀ z) ∧ ∃ st, nx = own st ++ news ∧ p st
theorem range_S {σ : Type} {r : Addr} {a₀ b₀ : Int} {t₀ u₀ v₀ : Tok} {m₀ : Str → Option Value} {news : List (Addr × Obj)} (n : Nat) (stored : List Str) (own : σ → List (Addr × Obj)) (P : Nat → σ → Prop) (st₀ : σ)
    (hh : A.handled = none) (hr : IsRange s.heap r a₀ b₀ 1 t₀ u₀ v₀) (hsmall : Builtin.Range.small a₀ b₀ 1 = true) (hn : (b₀ - a₀).toNat = n) (F : Fr h₀ env.locals s.heap m₀) (N : News h₀ env.locals s.heap (own st₀ ++ news)) (hp : P 0 st₀)
    (turn : ∀ (i : Nat) t (u : Str → Option Value) st h tk I oI, i < n → P i st → AllNe I (own st ++ news) → Fr h₀ env.locals h (fun y => if y = x then some (.int (a₀ + i) t) else if stored.contains y then u y else m₀ y) → News h₀ env.locals h ((I, oI) :: (own st ++ news)) →
      wpAny (model prog w) A (execs body env) (PostX h₀ env.locals (JS [x] stored m₀ own news (P (i + 1))) I oI { s with heap := h, toks := tk } Q) E { s with heap := h, toks := tk })
    (done : ∀ (u : Str → Option Value) st h tk, P n st → Fr h₀ env.locals h (fun y => if y = x then u y else if stored.contains y then u y else m₀ y) → News h₀ env.locals h (own st ++ news) → Q .next { s with heap := h, toks := tk }) :
    wpAny (model prog w) A (pyIter (.ref r)) (fun it s₂ => LoopAtV prog w A h₀ env x body Q E it s₂) E s := by
  refine range_X n (fun i m nx => JS [x] stored m₀ own news (P i) m nx) hh hr hsmall hn F N ⟨fun _ _ _ => rfl, st₀, rfl, hp⟩ ?_ ?_
  · rintro i t m₁ nx h tk I oI hi ⟨hm, st, rfl, hP⟩ hoff F₁ N₁
    exact turn i t m₁ st h tk I oI hi hP (allNe_of hoff) (plain_fr1 hm F₁) N₁
  · rintro m₁ nx h tk ⟨hm, st, rfl, hP⟩ F₁ N₁
    exact done m₁ st h tk hP (plain_fr0 hm F₁) N₁
theorem js_end {σ : Type} {xs stored : List Str} {m₀ m' : Str → Option Value} {own : σ → List (Addr × Obj)} {news news' : List (Addr × Obj)} {P : σ → Prop} {L I : Addr} {oI : Obj} {s₁ : Shared} {h' : Heap} {tk : Nat} (st : σ)
    (F : Fr h₀ L h' m') (N : News h₀ L h' news') (hI : (I, oI) ∈ news') (hn : ∀ q ∈ own st ++ news, q ∈ news') (hoff : ∀ q ∈ own st ++ news, q.1 ≠ I)
    (hm : ∀ z, xs.contains z = false → stored.contains z = false → m' z = m₀ z) (hP : P st) : EndX h₀ L (JS xs stored m₀ own news P) I oI s₁ { s₁ with heap := h', toks := tk } :=
  ⟨h', tk, m', _, rfl, F, fun q hq => by
    rcases List.mem_cons.mp hq with rfl | hq
    · exact N _ hI
    · exact N _ (hn q hq), hoff, hm, st, rfl, hP⟩
theorem list_X {l : Addr} {its : Array Value} {m₀ : Str → Option Value} {news : List (Addr × Obj)} (J : Nat → (Str → Option Value) → List (Addr × Obj) → Prop)
    (hh : A.handled = none) (hl : h₀.IsList l its) (F : Fr h₀ env.locals s.heap m₀) (N : News h₀ env.locals s.heap news) (hp : J 0 m₀ news)
    (turn : ∀ (i : Nat) v m₁ nx h tk I oI, its[i]? = some v → J i m₁ nx → (∀ q ∈ nx, q.1 ≠ I) → Fr h₀ env.locals h (fun y => if y = x then some v else m₁ y) → News h₀ env.locals h ((I, oI) :: nx) →
      wpAny (model prog w) A (execs body env) (PostX h₀ env.locals (J (i + 1)) I oI { s with heap := h, toks := tk } Q) E { s with heap := h, toks := tk })
    (done : ∀ m₁ nx h tk, J its.size m₁ nx → Fr h₀ env.locals h m₁ → News h₀ env.locals h nx → Q .next { s with heap := h, toks := tk }) :
    wpAny (model prog w) A (pyIter (.ref l)) (fun it s₂ => LoopAtV prog w A h₀ env x body Q E it s₂) E s := by
  have hls : s.heap.IsList l its := hl.at fun o e => F.keep l o e
  obtain ⟨ol, hol, _⟩ := id hl
  have hlt : l < h₀.objs.size := Heap.lt_size hol
  have hne : l ≠ s.heap.objs.size := Nat.ne_of_lt (Nat.lt_trans (Nat.lt_of_lt_of_le hlt F.above) F.ns.lt)
  refine wpAny_pyIter_list hls ?_
  have W := Walks.list (prog := prog) (w := w) hh s.heap.objs.size l hne its
  refine ⟨_, _, _, its.size, _, _, m₀, news, J, rfl, W, ?_, ?_, ?_, ⟨⟨_, Heap.get?_push_size _ rfl, rfl, rfl⟩, hls.at fun o e => Heap.get?_push_of_some _ e⟩, F.push _, (fun p hp => ⟨Heap.get?_push_of_some _ (N p hp).1, (N p hp).2⟩), hp, ?_, ?_⟩
  · intro hm
    rcases List.mem_cons.mp hm with e | hm
    · exact absurd F.ns.lt (e ▸ Nat.lt_irrefl _)
    · exact absurd (Nat.lt_of_lt_of_le hlt F.above) ((List.mem_singleton.mp hm) ▸ Nat.lt_irrefl _)
  · intro b hb
    rw [List.mem_singleton.mp hb]
    exact next_is_new F
  · intro p hp hI
    exact absurd (Heap.lt_size (N p hp).1) ((List.mem_singleton.mp hI) ▸ Nat.lt_irrefl _)
  · rintro i v m₁ nx s₁ own ⟨h, tk, rfl⟩ hi hv hJ hoff hown hall hsub hst F₁ N₁
    have hI : ∃ oI, h.get? s.heap.objs.size = some oI := by
      obtain ⟨⟨o, e, _⟩, _⟩ := hst
      exact ⟨o, e⟩
    obtain ⟨oI, hoI⟩ := hI
    have hmem : (s.heap.objs.size, oI) ∈ own := hsub _ (List.mem_cons_self) (next_is_new F) _ hoI
    have hnx : ∀ q ∈ nx, q.1 ≠ s.heap.objs.size := fun q hq e => hoff q hq (e ▸ List.mem_singleton.mpr rfl)
    have N₂ : News h₀ env.locals h ((s.heap.objs.size, oI) :: nx) := fun q hq => by
      rcases List.mem_cons.mp hq with rfl | hq
      · exact N₁ _ (List.mem_append.mpr (.inl hmem))
      · exact N₁ _ (List.mem_append.mpr (.inr hq))
    refine wpAny_mono (turn i v m₁ nx h tk s.heap.objs.size oI hv hJ hnx F₁ N₂) (fun f s₂ p => ?_) fun _ _ e => e
    have fin : EndX h₀ env.locals (J (i + 1)) s.heap.objs.size oI { s with heap := h, toks := tk } s₂ → LoopStepU h₀ env.locals [s.heap.objs.size] own (J (i + 1)) { s with heap := h, toks := tk } .next s₂ := by
      rintro ⟨h', tk', m', nx', e, F', N', hoff', hJ'⟩
      refine ⟨rfl, h', tk', m', nx', e, F', fun p hp => ?_, fun p hp hI => hoff' p hp (List.mem_singleton.mp hI), hJ'⟩
      rcases List.mem_append.mp hp with hp | hp
      · have h2 := hall p hp
        have h1 : p.1 = s.heap.objs.size := by
          rcases List.mem_cons.mp (hown p hp) with e | hm
          · exact e
          · have h5 := (N₁ p (List.mem_append.mpr (.inl hp))).2.2
            rw [List.mem_singleton.mp hm, hol] at h5; cases h5
        obtain ⟨pa, po⟩ := p
        subst h1
        have h3 : h.get? s.heap.objs.size = some po := h2
        rw [hoI] at h3; cases h3
        exact N' _ (.head _)
      · exact N' p (.tail _ hp)
    cases f with
    | ret v => exact .ret p
    | brk => exact .brk p
    | next => exact .next (fin p)
    | cont => exact .cont (fin p)
  · intro h' tk m' news' F' N' _ hJ
    exact done m' news' h' tk hJ F' N'
theorem list_S {σ : Type} {l : Addr} {its : Array Value} {m₀ : Str → Option Value} {news : List (Addr × Obj)} (stored : List Str) (own : σ → List (Addr × Obj)) (P : Nat → σ → Prop) (st₀ : σ)
    (hh : A.handled = none) (hl : h₀.IsList l its) (F : Fr h₀ env.locals s.heap m₀) (N : News h₀ env.locals s.heap (own st₀ ++ news)) (hp : P 0 st₀)
    (turn : ∀ (i : Nat) v (u : Str → Option Value) st h tk I oI, its[i]? = some v → P i st → AllNe I (own st ++ news) → Fr h₀ env.locals h (fun y => if y = x then some v else if stored.contains y then u y else m₀ y) → News h₀ env.locals h ((I, oI) :: (own st ++ news)) →
      wpAny (model prog w) A (execs body env) (PostX h₀ env.locals (JS [x] stored m₀ own news (P (i + 1))) I oI { s with heap := h, toks := tk } Q) E { s with heap := h, toks := tk })
    (done : ∀ (u : Str → Option Value) st h tk, P its.size st → Fr h₀ env.locals h (fun y => if y = x then u y else if stored.contains y then u y else m₀ y) → News h₀ env.locals h (own st ++ news) → Q .next { s with heap := h, toks := tk }) :
    wpAny (model prog w) A (pyIter (.ref l)) (fun it s₂ => LoopAtV prog w A h₀ env x body Q E it s₂) E s := by
  refine list_X (fun i m nx => JS [x] stored m₀ own news (P i) m nx) hh hl F N ⟨fun _ _ _ => rfl, st₀, rfl, hp⟩ ?_ ?_
  · rintro i v m₁ nx h tk I oI hi ⟨hm, st, rfl, hP⟩ hoff F₁ N₁
    exact turn i v m₁ st h tk I oI hi hP (allNe_of hoff) (plain_fr1 hm F₁) N₁
  · rintro m₁ nx h tk ⟨hm, st, rfl, hP⟩ F₁ N₁
    exact done m₁ st h tk hP (plain_fr0 hm F₁) N₁
theorem walks_X {I : Addr} {fp : List Addr} {n : Nat} {Pv : Nat → Value → Prop} {St : Nat → Heap → Prop} {m₀ : Str → Option Value} {news : List (Addr × Obj)} (J : Nat → (Str → Option Value) → List (Addr × Obj) → Prop)
    (W : Walks prog w A I fp [I] n Pv St) (hfp : ∀ b ∈ fp, b = I ∨ ∃ o, h₀.get? b = some o) (hL : env.locals ∉ fp) (hI0 : h₀.get? I = none) (hIf : I ∈ fp) (hSt : ∀ i h, St i h → ∃ o, h.get? I = some o) (st0 : St 0 s.heap)
    (F : Fr h₀ env.locals s.heap m₀) (N : News h₀ env.locals s.heap news) (hoff : ∀ q ∈ news, q.1 ≠ I) (hp : J 0 m₀ news)
    (turn : ∀ (i : Nat) v m₁ nx h tk oI, i < n → Pv i v → J i m₁ nx → (∀ q ∈ nx, q.1 ≠ I) → Fr h₀ env.locals h (fun y => if y = x then some v else m₁ y) → News h₀ env.locals h ((I, oI) :: nx) →
      wpAny (model prog w) A (execs body env) (PostX h₀ env.locals (J (i + 1)) I oI { s with heap := h, toks := tk } Q) E { s with heap := h, toks := tk })
    (done : ∀ m₁ nx h tk, J n m₁ nx → Fr h₀ env.locals h m₁ → News h₀ env.locals h nx → Q .next { s with heap := h, toks := tk }) : LoopAtV prog w A h₀ env x body Q E (.ref I) s := by
  refine ⟨_, _, _, n, _, _, m₀, news, J, rfl, W, hL, ?_, ?_, st0, F, N, hp, ?_, ?_⟩
  · intro b hb
    rw [List.mem_singleton.mp hb]
    exact hI0
  · intro p hp hI
    exact hoff p hp (List.mem_singleton.mp hI)
  · rintro i v m₁ nx s₁ own ⟨h, tk, rfl⟩ hi hv hJ hoff hown hall hsub hst F₁ N₁
    obtain ⟨oI, hoI⟩ := hSt _ _ hst
    have hmem : (I, oI) ∈ own := hsub _ hIf hI0 _ hoI
    have hnx : ∀ q ∈ nx, q.1 ≠ I := fun q hq e => hoff q hq (e ▸ List.mem_singleton.mpr rfl)
    have N₂ : News h₀ env.locals h ((I, oI) :: nx) := fun q hq => by
      rcases List.mem_cons.mp hq with rfl | hq
      · exact N₁ _ (List.mem_append.mpr (.inl hmem))
      · exact N₁ _ (List.mem_append.mpr (.inr hq))
    refine wpAny_mono (turn i v m₁ nx h tk oI hi hv hJ hnx F₁ N₂) (fun f s₂ p => ?_) fun _ _ e => e
    have fin : EndX h₀ env.locals (J (i + 1)) I oI { s with heap := h, toks := tk } s₂ → LoopStepU h₀ env.locals [I] own (J (i + 1)) { s with heap := h, toks := tk } .next s₂ := by
      rintro ⟨h', tk', m', nx', e, F', N', hoff', hJ'⟩
      refine ⟨rfl, h', tk', m', nx', e, F', fun p hp => ?_, fun p hp hI => hoff' p hp (List.mem_singleton.mp hI), hJ'⟩
      rcases List.mem_append.mp hp with hp | hp
      · have h2 := hall p hp
        have h1 : p.1 = I := by
          rcases hfp _ (hown p hp) with e | ⟨o, e⟩
          · exact e
          · have h5 := (N₁ p (List.mem_append.mpr (.inl hp))).2.2
            rw [e] at h5; cases h5
        obtain ⟨pa, po⟩ := p
        subst h1
        have h3 : h.get? pa = some po := h2
        rw [hoI] at h3; cases h3
        exact N' _ (.head _)
      · exact N' p (.tail _ hp)
    cases f with
    | ret v => exact .ret p
    | brk => exact .brk p
    | next => exact .next (fin p)
    | cont => exact .cont (fin p)
  · intro h' tk m' news' F' N' _ hJ
    exact done m' news' h' tk hJ F' N'
theorem rev_S {σ : Type} {D l : Addr} {vs : List Value} {m₀ : Str → Option Value} {news : List (Addr × Obj)} (stored : List Str) (own : σ → List (Addr × Obj)) (P : Nat → σ → Prop) (st₀ : σ)
    (hh : A.handled = none) (hl : h₀.IsList l vs.toArray) (F : Fr h₀ env.locals s.heap m₀) (N : News h₀ env.locals s.heap ((D, revObj l ((vs.length : Int) - 1)) :: (own st₀ ++ news))) (hoff : ∀ q ∈ own st₀ ++ news, q.1 ≠ D) (hp : P 0 st₀)
    (turn : ∀ (i : Nat) v (u : Str → Option Value) st h tk oI, vs.reverse[i]? = some v → P i st → AllNe D (own st ++ news) → Fr h₀ env.locals h (fun y => if y = x then some v else if stored.contains y then u y else m₀ y) → News h₀ env.locals h ((D, oI) :: (own st ++ news)) →
      wpAny (model prog w) A (execs body env) (PostX h₀ env.locals (JS [x] stored m₀ own news (P (i + 1))) D oI { s with heap := h, toks := tk } Q) E { s with heap := h, toks := tk })
    (done : ∀ (u : Str → Option Value) st h tk, P vs.length st → Fr h₀ env.locals h (fun y => if y = x then u y else if stored.contains y then u y else m₀ y) → News h₀ env.locals h (own st ++ news) → Q .next { s with heap := h, toks := tk }) :
    wpAny (model prog w) A (pyIter (.ref D)) (fun it s₂ => LoopAtV prog w A h₀ env x body Q E it s₂) E s := by
  have hD := N _ (.head _)
  have hne : l ≠ D := fun e => by
    obtain ⟨ol, hol, _⟩ := hl
    have := hD.2.2
    rw [e] at hol; rw [hol] at this; cases this
  have hit : s.heap.IsRevIter D l ((vs.length : Int) - 1) := ⟨_, hD.1, rfl, rfl⟩
  refine wpAny_pyIter_revIter hit ?_
  have W := Walks.listRev (prog := prog) (w := w) hh D l hne vs.toArray
  refine walks_X (fun i m nx => JS [x] stored m₀ own news (P i) m nx) W ?_ ?_ hD.2.2 (by simp) ?_ ⟨Nat.zero_le _, by simpa using hit, hl.at fun o e => F.keep _ _ e⟩ F (fun q hq => N q (.tail _ hq)) hoff ⟨fun _ _ _ => rfl, st₀, rfl, hp⟩ ?_ ?_
  · intro b hb
    rcases List.mem_cons.mp hb with e | hb
    · exact .inl e
    · obtain ⟨ol, hol, _⟩ := hl
      rw [List.mem_singleton.mp hb]; exact .inr ⟨ol, hol⟩
  · intro hm
    rcases List.mem_cons.mp hm with e | hm
    · exact hD.2.1 e.symm
    · obtain ⟨ol, hol, _⟩ := hl
      have := Nat.lt_of_lt_of_le (Heap.lt_size hol) F.above
      rw [List.mem_singleton.mp hm] at this
      exact absurd this (Nat.lt_irrefl _)
  · rintro i h ⟨_, ⟨o, e, _⟩, _⟩
    exact ⟨o, e⟩
  · rintro i v m₁ nx h tk oI hi hv ⟨hm, st, rfl, hP⟩ hoff F₁ N₁
    refine turn i v m₁ st h tk oI ?_ hP (allNe_of hoff) (plain_fr1 hm F₁) N₁
    have hi' : i < vs.length := by simpa using hi
    have hv' : vs[vs.length - 1 - i]? = some v := by simpa using hv
    rw [List.getElem?_reverse hi']; exact hv'
  · rintro m₁ nx h tk ⟨hm, st, rfl, hP⟩ F₁ N₁
    exact done m₁ st h tk (by simpa using hP) (plain_fr0 hm F₁) N₁
end
theorem News.first {h₀ h : Heap} {L a : Addr} {o : Obj} {r : List (Addr × Obj)} (N : News h₀ L h ((a, o) :: r)) : ∃ a', a' = a ∧ News h₀ L h ([(a', o)] ++ r) := ⟨a, rfl, N⟩
theorem AllNe.all {d : Nat} {l : List (Addr × Obj)} (h : AllNe d l) : ∀ p ∈ l, @Ne Nat p.1 d := fun p hp => by
  obtain ⟨a, o⟩ := p
  exact AllNe.ne h hp
section
variable {prog : Program} {w : World} {A : Around} {E : Value → Shared → Prop} {s : Shared} {h₀ : Heap} {L : Addr} {m : Str → Option Value} {env : Env}
theorem tup_st {ax I : Addr} {its : Array Value} (ht : IsTup h₀ ax its) : ∀ i (h h' : Heap) (o : Obj) (nw : List (Addr × Obj)), (h.IsTupleIter I ax i ∧ h.IsTuple ax its) → h.get? I = some o → h'.get? I = some o → (∀ b o, h₀.get? b = some o → h'.get? b = some o) → News h₀ L h' nw → True → (h'.IsTupleIter I ax i ∧ h'.IsTuple ax its) :=
  fun i h h' o nw st e e' k N _ => ⟨by obtain ⟨o', q, r⟩ := st.1; rw [e] at q; cases q; exact ⟨o, e', r⟩, by obtain ⟨o, a, b⟩ := ht; exact ⟨o, k _ _ a, b⟩⟩
open LCg in
noncomputable def TupSrc (prog : Program) (w : World) (A : Around) (h₀ : Heap) (L : Addr) (m : Str → Option Value) (env : Env) (elt : Expr) (x : Str) (scope : Scope) (cl : List (Str × Addr)) (Q : Value → Shared → Prop) (xv : Value) (s₁ : Shared) : Prop :=
  ∃ ax its news, xv = .ref ax ∧ A.handled = none ∧ Fr h₀ L s₁.heap m ∧ News h₀ L s₁.heap news ∧ IsTup h₀ ax its ∧ its.size ≤ sizeLine ∧
    ∀ g, CompRest prog w A h₀ L m env elt x scope cl { s₁ with heap := g } (fun _ => True) (fun i v => its[i]? = some v) (FinE h₀ L m { s₁ with heap := g } Q) its.size 0 [] news
open LCg in
theorem ListComp_Tup {elt iter : Expr} {x : Str} {px : Pos} {scope : Scope} {cl : List (Str × Addr)} {pos : Pos} {Q : Value → Shared → Prop} (F₀ : Fr h₀ L s.heap m := by k_asm)
    (hclos : closureFor scope env = pure cl := by with_unfolding_all rfl) (hcell : ∀ y ∈ scope.names, y.2 ≠ .cell := by decide) (hkind : scope.kind = .function := by rfl)
    (hnames : ∀ y ∈ scope.names, y.2 = .local → scope.names.lookup y.1 = some .local := by decide) (hx : scope.names.lookup x = some .local := by rfl)
    (h : wpAny (model prog w) A (eval iter env) (TupSrc prog w A h₀ L m env elt x scope cl Q) E s)
    (hs : ∀ x, foldedSetIterable iter env x = pure x := by intro _; rfl) :
    wpAny (model prog w) A (eval (.ListComp elt [⟨.Name x px, iter, [], 0⟩] scope pos) env) Q E s := by
  rw [eval_ListComp]
  refine wpAny_comprehension_free (use := none) rfl hs hclos hkind hnames (wpAny_mono h (fun xv s₁ h₁ => ?_) fun _ _ e => e)
  obtain ⟨ax, its, news, rfl, hh, F, N, T, hsz, R⟩ := h₁
  have hl : s₁.heap.IsTuple ax its := by obtain ⟨o, a, b⟩ := T; exact ⟨o, F.keep _ _ a, b⟩
  have hlt : ax < s₁.heap.objs.size := by obtain ⟨_, e, _⟩ := hl; exact Heap.lt_size e
  refine wpAny_pyIter_tuple hl ?_
  have up : ∀ b o, s₁.heap.get? b = some o → (s₁.heap.push { cls := .type "tuple_iterator", data := .fields #[.ref ax, .int 0 0] }).get? b = some o := fun b o e => Heap.get?_push_of_some _ e
  refine block_U (Walks.tuple hh s₁.heap.objs.size ax (Nat.ne_of_lt hlt) its) hsz (fun i h st => by obtain ⟨o, e, _⟩ := st.1; exact ⟨o, e⟩) (tup_st T) hcell hkind hx ⟨⟨_, Heap.get?_push_size _ rfl, rfl, rfl⟩, hl.at fun o e => up _ _ e⟩ (fun b hb => ?_)
    (F.keeps up) (N.grown up) (Nat.ne_of_lt F.ns.lt) (next_is_new F) (fun p hp => Nat.ne_of_lt (Heap.lt_size (N p hp).1)) trivial (R _) ?_
  · show b < (s₁.heap.push _).objs.size
    rw [Heap.size_push]
    rcases List.mem_cons.mp hb with rfl | hb
    · exact Nat.lt_succ_self _
    · rw [List.mem_singleton.mp hb]; exact Nat.lt_succ_of_lt hlt
  · intro D C h tk m' ys news' F' N' o1 hn hC₀ hD₀ hCL hDL hCD offC fin
    refine ⟨m', hn, fun h'' hs'' => fin D h'' tk (F'.change hs'' hCL hC₀) (fun p hp => ?_) o1⟩
    refine ⟨hs''.extBut _ _ ?_ (N' p hp).1, (N' p hp).2⟩
    rcases List.mem_cons.mp hp with rfl | hp
    · exact Ne.symm hCD
    · exact offC p hp
open LCg in
-- a comprehension of any length by an invariant
theorem comp_ind {elt : Expr} {x : Str} {scope : Scope} {cl : List (Str × Addr)} {S : List (Addr × Obj) → Prop} {P : Nat → Value → Prop} {Fin : List Value → List (Addr × Obj) → Prop} (R : Nat → List Value → List (Addr × Obj) → Prop) {n : Nat} {news : List (Addr × Obj)} (h0 : R 0 [] news)
    (turn : ∀ i ys news v I oI C oC D m₂ h tk (E' : Value → Shared → Prop), i < n → R i ys news → P i v → NsObj oC m₂ → m₂ x = some v → Fr h₀ L h m → News h₀ L h ((I, oI) :: (C, oC) :: (D, lst ys) :: news) → Off3 I C D news → ((@Ne Nat I C) ∧ (@Ne Nat I D) ∧ (@Ne Nat C D)) →
      wpAny (model prog w) A (eval elt (compEnvC scope cl C env)) (CompEnd h₀ L m { s with heap := h, toks := tk } I oI C oC D (lst ys) S (fun y news' => R (i + 1) (ys ++ [y]) news')) E' { s with heap := h, toks := tk })
    (fin : ∀ ys news, R n ys news → Fin ys news) : CompRest prog w A h₀ L m env elt x scope cl s S P Fin n 0 [] news := by
  have key : ∀ k i ys news, i + k = n → R i ys news → CompRest prog w A h₀ L m env elt x scope cl s S P Fin k i ys news := by
    intro k
    induction k with
    | zero => intro i ys news e hR; exact fin ys news (by have : i = n := by omega
                                                          exact this ▸ hR)
    | succ k ih =>
      intro i ys news e hR v I oI C oC D m₂ h tk E' hv hC hx F N off ne
      refine wpAny_mono (turn i ys news v I oI C oC D m₂ h tk E' (by omega) hR hv hC hx F N off ne) (fun y s' z => ?_) fun _ _ e => e
      obtain ⟨h', tk', news', rfl, F', N', off', hS', hR'⟩ := z
      exact ⟨h', tk', news', rfl, F', N', off', hS', ih (i + 1) (ys ++ [y]) news' (by omega) hR'⟩
  exact key n 0 [] news (by omega) h0
open LCg in
-- a turn's end that lays one object behind the first of the ledger
theorem comp_push {s₁ : Shared} {I C D t a : Addr} {oI oC oD o oa : Obj} {S : List (Addr × Obj) → Prop} {rest : Value → List (Addr × Obj) → Prop} {y : Value} {h' : Heap} {tk : Nat} {seg : List (Addr × Obj)}
    (F : Fr h₀ L h' m) (N : News h₀ L h' ((t, o) :: (I, oI) :: (C, oC) :: (D, oD) :: (a, oa) :: seg)) (off : Off3 I C D ((a, oa) :: seg)) (h1 : @Ne Nat t I) (h2 : @Ne Nat t C) (h3 : @Ne Nat t D) (hS : S ((a, oa) :: (t, o) :: seg)) (r : rest y ((a, oa) :: (t, o) :: seg)) :
    CompEnd h₀ L m s₁ I oI C oC D oD S rest y { s₁ with heap := h', toks := tk } := by
  refine CompEnd.intro F N ((a, oa) :: (t, o) :: seg) (fun p hp => ?_) ⟨off.1, ⟨h1, h2, h3⟩, off.2⟩ hS r
  simp only [List.mem_cons] at hp ⊢
  rcases hp with h | h | h | h | h | h <;> simp [h]
end
section
variable {prog : Program} {w : World} {A : Around} {E : Value → Shared → Prop} {s : Shared} {h₀ : Heap} {L : Addr} {m : Str → Option Value} {env : Env}
open LCg in
theorem CompEnd.mono {s₁ : Shared} {I C D : Addr} {oI oC oD : Obj} {S : List (Addr × Obj) → Prop} {rest rest' : Value → List (Addr × Obj) → Prop} {y : Value} {s₂ : Shared} (k : ∀ news', rest y news' → rest' y news')
    (z : CompEnd h₀ L m s₁ I oI C oC D oD S rest y s₂) : CompEnd h₀ L m s₁ I oI C oC D oD S rest' y s₂ := by
  obtain ⟨h', tk', news', e, F', N', off', hS', hR'⟩ := z
  exact ⟨h', tk', news', e, F', N', off', hS', k _ hR'⟩
open LCg LCt in
-- a comprehension with a test, of any length, by an invariant
theorem comp_indT {ct elt : Expr} {x : Str} {scope : Scope} {cl : List (Str × Addr)} {S : List (Addr × Obj) → Prop} {P : Nat → Value → Prop} {Fin : List Value → List (Addr × Obj) → Prop} (R : Nat → List Value → List (Addr × Obj) → Prop) {n : Nat} {news : List (Addr × Obj)} (h0 : R 0 [] news)
    (turn : ∀ i ys news v I oI C oC D m₂ h tk (E' : Value → Shared → Prop), i < n → R i ys news → P i v → NsObj oC m₂ → m₂ x = some v → Fr h₀ L h m → News h₀ L h ((I, oI) :: (C, oC) :: (D, lst ys) :: news) → Off3 I C D news → ((@Ne Nat I C) ∧ (@Ne Nat I D) ∧ (@Ne Nat C D)) →
      wpAny (model prog w) A (isTrue ct (compEnvC scope cl C env) (eval ct (compEnvC scope cl C env))) (fun ok s' => if ok = true then
        wpAny (model prog w) A (eval elt (compEnvC scope cl C env)) (CompEnd h₀ L m { s with heap := h, toks := tk } I oI C oC D (lst ys) S (fun y news' => R (i + 1) (ys ++ [y]) news')) E' s'
        else CompEnd h₀ L m { s with heap := h, toks := tk } I oI C oC D (lst ys) S (fun _ news' => R (i + 1) ys news') Value.none s') E' { s with heap := h, toks := tk })
    (fin : ∀ ys news, R n ys news → Fin ys news) : CompRestT prog w A h₀ L m env ct elt x scope cl s S P Fin n 0 [] news := by
  have key : ∀ k i ys news, i + k = n → R i ys news → CompRestT prog w A h₀ L m env ct elt x scope cl s S P Fin k i ys news := by
    intro k
    induction k with
    | zero =>
      intro i ys news e hR
      have e' : i = n := by omega
      exact fin ys news (e' ▸ hR)
    | succ k ih =>
      intro i ys news e hR v I oI C oC D m₂ h tk E' hv hC hx F N off ne
      refine wpAny_mono (turn i ys news v I oI C oC D m₂ h tk E' (by omega) hR hv hC hx F N off ne) (fun ok s' z => ?_) fun _ _ e => e
      by_cases hok : ok = true
      · rw [if_pos hok] at z ⊢
        exact wpAny_mono z (fun y s'' z => Mine.CompEnd.mono (fun news' r => ih (i + 1) _ news' (by omega) r) z) fun _ _ e => e
      · rw [if_neg hok] at z ⊢
        exact Mine.CompEnd.mono (fun news' r => ih (i + 1) _ news' (by omega) r) z
  exact key n 0 [] news (by omega) h0
open LCg LCt in
-- the same where the ledger stays and ints are told
theorem comp_intsT {ct elt : Expr} {x : Str} {scope : Scope} {cl : List (Str × Addr)} {S : List (Addr × Obj) → Prop} {P : Nat → Value → Prop} {Fin : List Value → List (Addr × Obj) → Prop} (g : Nat → List Int) {n : Nat} {news : List (Addr × Obj)} (g0 : g 0 = [])
    (turn : ∀ i ys v I oI C oC D m₂ h tk (E' : Value → Shared → Prop), i < n → IntsAre ys (g i) → P i v → NsObj oC m₂ → m₂ x = some v → Fr h₀ L h m → News h₀ L h ((I, oI) :: (C, oC) :: (D, lst ys) :: news) → Off3 I C D news → ((@Ne Nat I C) ∧ (@Ne Nat I D) ∧ (@Ne Nat C D)) →
      wpAny (model prog w) A (isTrue ct (compEnvC scope cl C env) (eval ct (compEnvC scope cl C env))) (fun ok s' => if ok = true then
        wpAny (model prog w) A (eval elt (compEnvC scope cl C env)) (CompEnd h₀ L m { s with heap := h, toks := tk } I oI C oC D (lst ys) S (fun y news' => news' = news ∧ IntsAre (ys ++ [y]) (g (i + 1)))) E' s'
        else CompEnd h₀ L m { s with heap := h, toks := tk } I oI C oC D (lst ys) S (fun _ news' => news' = news ∧ IntsAre ys (g (i + 1))) Value.none s') E' { s with heap := h, toks := tk })
    (fin : ∀ ys, IntsAre ys (g n) → Fin ys news) : CompRestT prog w A h₀ L m env ct elt x scope cl s S P Fin n 0 [] news := by
  refine comp_indT (fun i ys nx => nx = news ∧ IntsAre ys (g i)) ⟨rfl, g0 ▸ IntsAre.nil⟩ ?_ ?_
  · rintro i ys nx v I oI C oC D m₂ h tk E' hi ⟨rfl, hI⟩ hv hC hx F N off ne
    exact turn i ys v I oI C oC D m₂ h tk E' hi hI hv hC hx F N off ne
  · rintro ys nx ⟨rfl, hI⟩
    exact fin ys hI
open LCg in
-- a comprehension that turns the first object of the ledger
theorem comp_one {elt : Expr} {x : Str} {scope : Scope} {cl : List (Str × Addr)} {S : List (Addr × Obj) → Prop} {P : Nat → Value → Prop} {Fin : List Value → List (Addr × Obj) → Prop} (R : Nat → List Value → Obj → Prop) {n : Nat} {a : Addr} {oa : Obj} {rest : List (Addr × Obj)} (h0 : R 0 [] oa)
    (turn : ∀ i ys o v I oI C oC D m₂ h tk (E' : Value → Shared → Prop), i < n → R i ys o → P i v → NsObj oC m₂ → m₂ x = some v → Fr h₀ L h m → News h₀ L h ((I, oI) :: (C, oC) :: (D, lst ys) :: (a, o) :: rest) → Off3 I C D ((a, o) :: rest) → ((@Ne Nat I C) ∧ (@Ne Nat I D) ∧ (@Ne Nat C D)) →
      wpAny (model prog w) A (eval elt (compEnvC scope cl C env)) (CompEnd h₀ L m { s with heap := h, toks := tk } I oI C oC D (lst ys) S (fun y nx => ∃ o', nx = (a, o') :: rest ∧ R (i + 1) (ys ++ [y]) o')) E' { s with heap := h, toks := tk })
    (fin : ∀ ys o, R n ys o → Fin ys ((a, o) :: rest)) : CompRest prog w A h₀ L m env elt x scope cl s S P Fin n 0 [] ((a, oa) :: rest) := by
  refine comp_ind (fun i ys nx => ∃ o, nx = (a, o) :: rest ∧ R i ys o) ⟨oa, rfl, h0⟩ ?_ ?_
  · rintro i ys nx v I oI C oC D m₂ h tk E' hi ⟨o, rfl, hR⟩ hv hC hx F N off ne
    exact turn i ys o v I oI C oC D m₂ h tk E' hi hR hv hC hx F N off ne
  · rintro ys nx ⟨o, rfl, hR⟩
    exact fin ys o hR
end
theorem deck_name {h₀ h : Heap} {L a d : Addr} {k : Value} {n : Nat} {r : List (Addr × Obj)} (N : News h₀ L h ((a, listOf #[.ref d, k] n) :: r)) : ∃ a' d' : Addr, a' = a ∧ d' = d ∧ News h₀ L h ((a', listOf #[.ref d', k] n) :: r) := ⟨a, d, rfl, rfl, N⟩
-- letters drawn from a row
noncomputable def Drawn (lets : List Nat) (ys : List Value) (cs : List Nat) : Prop := StrsAre ys (signs ⟨cs.toArray⟩) ∧ ∀ c ∈ cs, c ∈ lets
theorem strs_snoc {ys : List Value} {ss : List Str} {x : Str} {t : Tok} (h : StrsAre ys ss) : StrsAre (ys ++ [.str x t]) (ss ++ [x]) := by
  induction h with
  | nil => exact .cons _ _ .nil
  | cons y t _ ih => exact .cons _ _ ih
theorem Drawn.nil {lets : List Nat} : Drawn lets [] [] := ⟨.nil, fun _ h => by cases h⟩
theorem Drawn.snoc {lets : List Nat} {ys : List Value} {cs : List Nat} {c : Nat} {t : Tok} (h : Drawn lets ys cs) (hc : c ∈ lets) : Drawn lets (ys ++ [.str ⟨#[c]⟩ t]) (cs ++ [c]) := by
  refine ⟨?_, fun d hd => ?_⟩
  · have e : signs ⟨(cs ++ [c]).toArray⟩ = signs ⟨cs.toArray⟩ ++ [⟨#[c]⟩] := by simp [signs]
    rw [e]; exact strs_snoc h.1
  · rcases List.mem_append.mp hd with hd | hd
    · exact h.2 d hd
    · rw [List.mem_singleton.mp hd]; exact hc
-- the deck and the letters between the turns
noncomputable def DrawR (dc : Addr) (k0 : Int) (lets : List Nat) (i : Nat) (ys : List Value) (o : Obj) : Prop := ∃ (k : Int) (tk : Tok) (n : Nat) (cs : List Nat), o = W.listOf #[.ref dc, .int k tk] n ∧ k = k0 + i ∧ Drawn lets ys cs ∧ cs.length = i
theorem DrawR.zero {dc : Addr} {k0 : Int} {lets : List Nat} {tk : Tok} {n : Nat} : DrawR dc k0 lets 0 [] (W.listOf #[.ref dc, .int k0 tk] n) := ⟨k0, tk, n, [], rfl, by omega, .nil, rfl⟩
theorem DrawR.step {dc : Addr} {k0 k : Int} {lets : List Nat} {i : Nat} {ys : List Value} {cs : List Nat} {x : Str} {t tk : Tok} {n : Nat} (h : Drawn lets ys cs) (hl : cs.length = i) (hk : k = k0 + i) (hx : ∃ c ∈ lets, x = ⟨#[c]⟩) : DrawR dc k0 lets (i + 1) (ys ++ [.str x t]) (W.listOf #[.ref dc, .int (k + 1) tk] n) := by
  obtain ⟨c, hc, rfl⟩ := hx
  exact ⟨_, _, _, cs ++ [c], rfl, by omega, h.snoc hc, by rw [List.length_append, hl]; rfl⟩
theorem item5 {r : Int} (h0 : 0 ≤ r) (h1 : r < 5) : ∃ c ∈ [97, 98, 65, 66], Txt.item (Str.ofString "aabBA") r = ⟨#[c]⟩ := by
  have : r = 0 ∨ r = 1 ∨ r = 2 ∨ r = 3 ∨ r = 4 := by omega
  rcases this with rfl | rfl | rfl | rfl | rfl
  · exact ⟨97, by decide, by decide +kernel⟩
  · exact ⟨97, by decide, by decide +kernel⟩
  · exact ⟨98, by decide, by decide +kernel⟩
  · exact ⟨66, by decide, by decide +kernel⟩
  · exact ⟨65, by decide, by decide +kernel⟩
theorem item4 {r : Int} (h0 : 0 ≤ r) (h1 : r < 4) : ∃ c ∈ [97, 98, 66], Txt.item (Str.ofString "aabB") r = ⟨#[c]⟩ := by
  have : r = 0 ∨ r = 1 ∨ r = 2 ∨ r = 3 := by omega
  rcases this with rfl | rfl | rfl | rfl
  · exact ⟨97, by decide, by decide +kernel⟩
  · exact ⟨97, by decide, by decide +kernel⟩
  · exact ⟨98, by decide, by decide +kernel⟩
  · exact ⟨66, by decide, by decide +kernel⟩
theorem signs_sum (cs : List Nat) : ((signs ⟨cs.toArray⟩).map (·.length)).sum = cs.length := by
  induction cs with
  | nil => rfl
  | cons c r ih =>
    have e : signs ⟨(c :: r).toArray⟩ = ⟨#[c]⟩ :: signs ⟨r.toArray⟩ := by simp [signs]
    rw [e, List.map_cons, List.sum_cons, ih]
    show (1 : Nat) + r.length = r.length + 1
    omega
theorem join_drawn {prog : Program} {w : World} {A : Around} {E : Value → Shared → Prop} {s : Shared} {D : Addr} {ys : List Value} {cs lets : List Nat} {t : Tok} {Q : Value → Shared → Prop} (hl : s.heap.IsList D ys.toArray) (hd : Drawn lets ys cs) (hc : cs.length ≤ 1000)
    (h : ∀ t' k, Q (.str ⟨cs.toArray⟩ t') { s with toks := k }) : wpAny (model prog w) A (call (.builtin "str.join") [.str (Str.ofString "") t, .ref D]) Q E s := by
  have e0 : Str.ofString "" = (⟨#[]⟩ : Str) := by decide +kernel
  refine PyProof.Rows.join_list (ys := signs ⟨cs.toArray⟩) hl hd.1 ?_ fun t' k => ?_
  · rw [signs_sum, e0]
    have e1 : ((⟨#[]⟩ : Str)).length = 0 := rfl
    rw [e1]; omega
  · have e2 : Txt.join (Str.ofString "") (signs ⟨cs.toArray⟩) = ⟨cs.toArray⟩ := by
      rw [e0]; unfold Txt.join; rw [PySem.StrLaws.glued_eq_join]; exact join_nil_signs _
    rw [e2]; exact h t' k
section
variable {h₀ : Heap} {L : Addr} {m : Str → Option Value}
open LCg in
-- a turn's end of comp_one
theorem one_push {s₁ : Shared} {I C D a : Addr} {oI oC oD o o' : Obj} {S : List (Addr × Obj) → Prop} {R : Value → Obj → Prop} {y : Value} {h' : Heap} {tk : Nat} {rest : List (Addr × Obj)}
    (F : Fr h₀ L h' m) (N : News h₀ L h' ((a, o') :: (I, oI) :: (C, oC) :: (D, oD) :: rest)) (off : Off3 I C D ((a, o) :: rest)) (hS : S ((a, o') :: rest)) (r : R y o') :
    CompEnd h₀ L m s₁ I oI C oC D oD S (fun y nx => ∃ o', nx = (a, o') :: rest ∧ R y o') y { s₁ with heap := h', toks := tk } := by
  refine CompEnd.intro F N ((a, o') :: rest) (fun p hp => ?_) ⟨off.1, off.2⟩ hS ⟨o', rfl, r⟩
  simp only [List.mem_cons] at hp ⊢
  rcases hp with h | h | h | h | h <;> simp [h]
end
-- the count of draws lies between nought and c
noncomputable def KB (k c : Int) : Prop := 0 ≤ k ∧ k ≤ c
theorem KB.zero : KB 0 0 := ⟨by decide, by decide⟩
theorem KB.one : KB 1 1 := ⟨by decide, by decide⟩
theorem KB.succ {k c : Int} (h : KB k c) : KB (k + 1) (c + 1) := by obtain ⟨a, b⟩ := h; exact ⟨by omega, by omega⟩
theorem KB.turn {k k0 c r m : Int} {i : Nat} (h : KB k0 c) (hk : k = k0 + i) (hi : i < (r - 0).toNat) (hr : r < m) : KB k (c + m) := by obtain ⟨a, b⟩ := h; exact ⟨by omega, by omega⟩
theorem KB.fin {k k0 c r m : Int} (h : KB k0 c) (hk : k = k0 + ((r - 0).toNat : Nat)) (h0 : 0 ≤ r) (hr : r < m) : KB k (c + m) := by obtain ⟨a, b⟩ := h; exact ⟨by omega, by omega⟩
theorem KB.ok {k c : Int} (h : KB k c) (hc : c ≤ 100) : 0 ≤ k ∧ k ≤ 100 := ⟨h.1, Int.le_trans h.2 hc⟩
theorem len40 {α β : Type} {f : α → β} {l : List α} : (List.map f (List.take 40 l)).length ≤ 63 := by
  rw [List.length_map, List.length_take]; omega
theorem small_r {r m : Int} (h0 : 0 ≤ r) (h1 : r < m) (hm : m ≤ 100) : Builtin.Range.small 0 r 1 = true := small_one (by omega) (by omega) (by omega) (by omega)
theorem size_r {r m : Int} (h1 : r < m) (hm : m ≤ 100) : (r - 0).toNat ≤ sizeLine := by rw [PySem.sizeLine_eq]; omega
theorem len_r {n : Nat} {r m : Int} (h : n = (r - 0).toNat) (h1 : r < m) (hm : m ≤ 100) : n ≤ 1000 := by omega
theorem deck_ne {h₀ h : Heap} {L a : Addr} {o : Obj} {r : List (Addr × Obj)} (_ : News h₀ L h ((a, o) :: r)) (k : ∀ p ∈ r, p.1 ≠ a) : AllNe a r := allNe_of k
theorem AllNe.of_map {d : Addr} : ∀ {l l' : List (Addr × Obj)}, AllNe d l → l.map (·.1) = l'.map (·.1) → AllNe d l'
  | [], [], _, _ => trivial
  | [], _ :: _, _, e => by simp at e
  | _ :: _, [], _, e => by simp at e
  | p :: l, q :: l', h, e => by
    simp only [List.map_cons, List.cons.injEq] at e
    exact ⟨e.1 ▸ h.1, AllNe.of_map h.2 e.2⟩
-- the drawing's lists are dropped
theorem tidy1 {h₀ h : Heap} {L a d c e f : Addr} {oa od oc oe og oe' og' : Obj} {r r' : List (Addr × Obj)} (N : News h₀ L h ((a, oa) :: (d, od) :: (c, oc) :: (e, oe) :: (f, og) :: r)) (A : AllNe d ((e, oe') :: (f, og') :: r')) (er : r'.map (·.1) = r.map (·.1)) :
    News h₀ L h ((d, od) :: (e, oe) :: r) ∧ AllNe d ((e, oe) :: r) := by
  refine ⟨fun q hq => N q ?_, A.1, AllNe.of_map A.2.2 er⟩
  rcases List.mem_cons.mp hq with rfl | hq
  · exact .tail _ (.head _)
  · rcases List.mem_cons.mp hq with rfl | hq
    · exact .tail _ (.tail _ (.tail _ (.head _)))
    · exact .tail _ (.tail _ (.tail _ (.tail _ (.tail _ hq))))
theorem le_r {n c : Nat} {r m : Int} (h : n = (r - 0).toNat) (h1 : r < m) (hm : m ≤ (c : Int) + 1) : n ≤ c := by omega
theorem off1_allne {D : Addr} : ∀ {l : List (Addr × Obj)}, LCg.Off1 D l → AllNe D l
  | [], _ => trivial
  | _ :: _, h => ⟨h.1, off1_allne h.2⟩
section
variable {prog : Program} {w : World} {A : Around} {E : Value → Shared → Prop} {s : Shared} {h₀ : Heap} {L : Addr} {m m' : Str → Option Value}
-- closers whose sides find themselves
theorem ltN {d x : Nat} {o : Obj} {l : List (Addr × Obj)} (h : AllLt d l := by with_reducible assumption) (m : (x, o) ∈ l := by k_mem) : @Ne Nat x d := AllLt.ne h m
theorem lt2N {d x y : Nat} {o : Obj} {l : List (Addr × Obj)} (e : @LT.lt Nat _ d x := by with_reducible assumption) (h : AllLt d l := by with_reducible assumption) (m : (y, o) ∈ l := by k_mem) : @Ne Nat y x := AllLt.ne2 e h m
theorem alN {d x : Nat} {o : Obj} {l : List (Addr × Obj)} (h : AllNe d l := by with_reducible assumption) (m : (x, o) ∈ l := by k_mem) : @Ne Nat x d := AllNe.ne h m
theorem o3I {I C D x : Nat} {o : Obj} {l : List (Addr × Obj)} (h : LCg.Off3 I C D l := by with_reducible assumption) (m : (x, o) ∈ l := by k_mem) : @Ne Nat x I := off3I h m
theorem o3C {I C D x : Nat} {o : Obj} {l : List (Addr × Obj)} (h : LCg.Off3 I C D l := by with_reducible assumption) (m : (x, o) ∈ l := by k_mem) : @Ne Nat x C := off3C h m
theorem o3D {I C D x : Nat} {o : Obj} {l : List (Addr × Obj)} (h : LCg.Off3 I C D l := by with_reducible assumption) (m : (x, o) ∈ l := by k_mem) : @Ne Nat x D := off3D h m
theorem o1N {D x : Nat} {o : Obj} {l : List (Addr × Obj)} (h : LCg.Off1 D l := by with_reducible assumption) (m : (x, o) ∈ l := by k_mem) : @Ne Nat x D := off1D h m
theorem nlN {a b : Nat} (h : a < b := by with_reducible assumption) : a ≠ b := Nat.ne_of_lt h
theorem conjA {a b : Nat} (h : @Ne Nat a b := by
    (with_reducible rename (@Ne Nat _ _ ∧ _ ∧ _) ∧ _ => hc9; with_reducible first | exact hc9.1.1 | exact hc9.1.2.1 | exact hc9.1.2.2 | exact hc9.2.1.1 | exact hc9.2.1.2.1 | exact hc9.2.1.2.2 | exact hc9.2.2.1 | exact hc9.2.2.2.1 | exact hc9.2.2.2.2 | fail)) : a ≠ b := h
theorem neB {a b : Nat} (h : @Ne Nat a b := by
    ((try dsimp only); first | with_reducible assumption | exact ltN | exact lt2N | exact alN | exact o1N | exact o3I | exact o3C | exact o3D | exact conjA | exact nlN | fail)) : a ≠ b := h
theorem neC {a b : Nat} (h : @Ne Nat a b := by
    ((try dsimp only); (try (have bq : BnOn := by with_reducible assumption; dsimp +zetaDelta only at *)); simp only [AllLt, and_true] at *; omega)) : a ≠ b := h
theorem allC {d : Nat} {q : Addr × Obj} {l : List (Addr × Obj)} (a : @Ne Nat q.1 d := by k_ne) (b : ∀ p ∈ l, @Ne Nat p.1 d := by k_all) : ∀ p ∈ q :: l, @Ne Nat p.1 d := List.forall_mem_cons.mpr ⟨a, b⟩
theorem allA {d : Nat} {l : List (Addr × Obj)} (h : AllNe d l := by with_reducible assumption) : ∀ p ∈ l, @Ne Nat p.1 d := AllNe.all h
theorem ltA {d : Nat} {l : List (Addr × Obj)} (h : AllLt d l := by with_reducible assumption) : ∀ p ∈ l, @Ne Nat p.1 d := AllLt.allNe h
theorem isTupA {h : Heap} {a : Addr} {news : List (Addr × Obj)} {items : Array Value} {n : Nat} {d : Option Addr} {sl : Array (Option Value)} (N : News h₀ L h news := by k_asm) (hm : (a, { cls := .type "tuple", dict := d, data := .seq items n, slots := sl }) ∈ news := by k_mem) : IsTup h a items := News.isTup N hm
theorem isListA {h : Heap} {a : Addr} {news : List (Addr × Obj)} {items : Array Value} {n : Nat} {d : Option Addr} {sl : Array (Option Value)} (N : News h₀ L h news := by k_asm) (hm : (a, { cls := .type "list", dict := d, data := .seq items n, slots := sl }) ∈ news := by k_mem) : h.IsList a items := News.isList N hm
theorem frTupA {h : Heap} {a : Addr} {items : Array Value} (F : Fr h₀ L h m := by k_asm) (x : IsTup h₀ a items := by with_reducible assumption) : IsTup h a items := Fr.tup F x
theorem plA {x y : Int} {M : Model} (h : y.natAbs < 1073741824 := by omega) : Builtin.divisionGoesByPylong x y = false ∨ PySem.PylongRoom M A s := Or.inl (PyProof.noPylong_small h)
theorem tupA {value slice : Expr} {t : Addr} {l : List Value} {k : Int} {u : Tok} {j : Nat} {x : Value} {Q : Value → Shared → Prop} (h : Q x s) (ht : IsTup s.heap t l.toArray := by exact isTupA)
    (hlo : -(2 ^ 63) ≤ k := by decide) (hhi : k < 2 ^ 63 := by decide) (hj : seqIndex? k l.length = some j := by rfl) (hx : l[j]? = some x := by rfl)
    (hs : subscripted slice false (.ref t) (.int k u) = operate [.ref t, .int k u] (getItem (.ref t) (.int k u)) := by with_unfolding_all rfl) :
    wpAny (model prog w) A (subscriptTail value slice (.ref t) (.int k u)) Q E s := item_tupleT ht hlo hhi hj hx h hs
theorem tupB {value slice : Expr} {t : Addr} {l : List Value} {k : Int} {u : Tok} {j : Nat} {x : Value} {Q : Value → Shared → Prop} (h : Q x s) (ht : IsTup s.heap t l.toArray := by first | with_reducible assumption | exact frTupA | fail)
    (hlo : -(2 ^ 63) ≤ k := by first | decide | omega) (hhi : k < 2 ^ 63 := by first | decide | omega) (hj : seqIndex? k l.length = some j := by first | rfl | decide) (hx : l[j]? = some x := by first | rfl | simp)
    (hs : subscripted slice false (.ref t) (.int k u) = operate [.ref t, .int k u] (getItem (.ref t) (.int k u)) := by with_unfolding_all rfl) (hg : ∀ r, letTemporaryGo value (.ref t) r = pure () := by intro _; with_unfolding_all rfl) :
    wpAny (model prog w) A (subscriptTail value slice (.ref t) (.int k u)) Q E s := item_tupleL ht hlo hhi hj hx h hs hg
theorem intA {value slice : Expr} {l : Addr} {vs : List Value} {ns : List Int} {k : Int} {u : Tok} {Q : Value → Shared → Prop} (h : ∀ t, Q (.int (ns.getD k.toNat 0) t) s) (hl : s.heap.IsList l vs.toArray := by first | with_reducible assumption | exact isListA | fail) (hi : IntsAre vs ns := by with_reducible assumption)
    (h0 : 0 ≤ k := by first | decide | omega) (h1 : k < ns.length := by first | idx_side | (simp; omega)) (hfit : k < 2 ^ 63 := by first | decide | omega)
    (hs : subscripted slice false (.ref l) (.int k u) = operate [.ref l, .int k u] (getItem (.ref l) (.int k u)) := by with_unfolding_all rfl) :
    wpAny (model prog w) A (subscriptTail value slice (.ref l) (.int k u)) Q E s := item_list_intsR hl hi h0 h1 hfit h hs
theorem turnA {value slice : PySem.Expr} {o i : Value} {Q : Value → Shared → Prop} (h : wpAny (model prog w) A (subscriptTail (PySem.Expr.Name (Str.ofString "_") ⟨0, 0, 0, 0⟩) slice o i) Q E s) : wpAny (model prog w) A (subscriptTail value slice o i) Q E s := kba_turn (fun _ => rfl) h
theorem lenA {l : Addr} {vs : List Value} {ns : List Int} {Q : Value → Shared → Prop} (h : Q (.int ns.length (s.toks + 1)) { s with toks := s.toks + 1 + 1 }) (F : Fr h₀ L s.heap m := by k_asm) (hl : h₀.IsList l vs.toArray := by fail "mine baseL") (hi : IntsAre vs ns := by assumption) (hz : ns.length ≤ 1000000 := by omega) :
    wpAny (model prog w) A (call (.builtin "len") [.ref l]) Q E s := len_b F hl hi hz h
theorem rng2A {Q : Value → Shared → Prop} {a b : Int} {t u : Tok} {news : List (Addr × Obj)} (h : ∀ h' tk t₁ u₁ v₁, IsRange h' s.heap.objs.size a b 1 t₁ u₁ v₁ → Fr h₀ L h' m → News h₀ L h' news → Q (.ref s.heap.objs.size) { s with heap := h', toks := tk }) (F : Fr h₀ L s.heap m := by k_asm) (N : News h₀ L s.heap news := by k_asm) :
    wpAny (model prog w) A (call (.type "range") [.int a t, .int b u]) Q E s := range2_rows F N fun h' tk t₁ u₁ v₁ a b c _ => h h' tk t₁ u₁ v₁ a b c
theorem rng1A {Q : Value → Shared → Prop} {n : Int} {t : Tok} {news : List (Addr × Obj)} (h : ∀ h' tk t₁ u₁ v₁, IsRange h' s.heap.objs.size 0 n 1 t₁ u₁ v₁ → Fr h₀ L h' m → News h₀ L h' news → Q (.ref s.heap.objs.size) { s with heap := h', toks := tk }) (F : Fr h₀ L s.heap m := by k_asm) (N : News h₀ L s.heap news := by k_asm) :
    wpAny (model prog w) A (call (.type "range") [.int n t]) Q E s := range1_rows F N fun h' tk t₁ u₁ v₁ a b c _ => h h' tk t₁ u₁ v₁ a b c
theorem rng3A {Q : Value → Shared → Prop} {a b c : Int} {t u v : Tok} {news : List (Addr × Obj)} (h : ∀ h' tk t₁ u₁ v₁, IsRange h' s.heap.objs.size a b c t₁ u₁ v₁ → Fr h₀ L h' m → News h₀ L h' news → Q (.ref s.heap.objs.size) { s with heap := h', toks := tk }) (F : Fr h₀ L s.heap m := by k_asm) (N : News h₀ L s.heap news := by k_asm) (hc : c ≠ 0 := by decide)
    (hp : Builtin.divisionGoesByPylong (b - a) c = false ∨ PySem.PylongRoom (model prog w) A s := by exact plA) :
    wpAny (model prog w) A (call (.type "range") [.int a t, .int b u, .int c v]) Q E s := range3_rows F N hc (fun h' tk t₁ u₁ v₁ a b c _ => h h' tk t₁ u₁ v₁ a b c) hp
theorem endA {xs stored : List Str} {m₀ : Str → Option Value} {news : List (Addr × Obj)} {p : Prop} {own news' : List (Addr × Obj)} {adr : List Addr} {h' : Heap} {tk : Nat}
    (hp : p) (hm : ∀ z, xs.contains z = false → stored.contains z = false → m' z = m₀ z) (F : Fr h₀ L h' m' := by k_asm) (N : News h₀ L h' news' := by k_asm) (ha : news.map (·.1) = adr := by rfl) (hn : ∀ q ∈ news, q ∈ news' := by fail "mine sub") (ho : ∀ q ∈ own, q ∈ news' := by fail "mine sub")
    :
    InvEndN h₀ L (PlainJ xs stored m₀ news p) own adr s { s with heap := h', toks := tk } := plain_end F N ha hn ho hm hp
theorem neIntsA {a b : Addr} {xs ys : List Value} {ns ms : List Int} {Q : Value → Shared → Prop} (h : Q (.bool (!decide (ns = ms))) s) (ha : s.heap.IsList a xs.toArray := by is_list) (hb : s.heap.IsList b ys.toArray := by is_list) (hi : IntsAre xs ns := by l_ints) (hj : IntsAre ys ms := by l_ints) (hu : A.units + 64 < cLine := by ktr_units) :
    wpAny (model prog w) A (compareOp .NotEq (.ref a) (.ref b)) Q E s := ke_ne_ints ha hb hi hj hu h
theorem forA {env : Env} {x : Str} {body : List Stmt} {Q : Flow → Shared → Prop} {px pos : Pos} {iter : Expr} 
    (h : wpAny (model prog w) A (eval iter env) (fun xv s₁ => wpAny (model prog w) A (pyIter xv) (fun it s₂ => LoopAtV prog w A h₀ env x body Q E it s₂) E s₁) E s)
    (F : Fr h₀ env.locals s.heap m := by ((rename Fr _ _ _ _ => lF'); with_unfolding_all exact lF')) (hx : env.kindOf x = some .local := by with_unfolding_all exact rfl)
    (hp : (env.scope.kind == .class || (env.scope.kind == .module && env.locals != env.globals)) = false := by with_unfolding_all exact rfl) 
    (hs : ∀ x, foldedSetIterable iter env x = pure x := by intro _; rfl)
    (hE : PassesOwn (model prog w) A env E := by passes_own) :
    wpAny (model prog w) A (exec (.For (.Name x px) iter body [] pos) env) Q E s := For_invVF F hx hp h hs hE
theorem instA {x C dx : Addr} {od : Obj} {h : Heap} {sl : Array (Option Value)} (F : Fr h₀ L h m := by k_asm) (h1 : h₀.get? x = some (⟨.ref C, some dx, .plain, sl⟩ : Obj) := by fail "mine base") (h2 : h₀.get? dx = some od := by fail "mine base") : InstAt h x ⟨.ref C, some dx, .plain, sl⟩ C (some od) := InstAt.of_base F h1 h2
theorem instB {x C dx : Addr} {od : Obj} {h : Heap} {sl : Array (Option Value)} {news : List (Addr × Obj)} (F : Fr h₀ L h m := by k_asm) (N : News h₀ L h news := by k_asm) (h1 : h₀.get? x = some (⟨.ref C, some dx, .plain, sl⟩ : Obj) := by fail "mine base") (h2 : (dx, od) ∈ news := by k_mem) : InstAt h x ⟨.ref C, some dx, .plain, sl⟩ C (some od) := InstAt.of_mix F N h1 h2
end
section
variable {M : Model} {A : Around} {E : Value → Shared → Prop} {s : Shared} {K : Frag} {h₀ : Heap} {f : Value} {first : List Value} {pos : Pos} {env : Env} {Q : Value → Shared → Prop}
theorem cwA {e : Expr} {rest : List Expr} (h : wpAny M A (spliced (backTo pos (starEach (e :: rest) env))) (fun vs s₁ => K.In s₁.heap ∧ wpAny M A (call f (first ++ vs)) Q E s₁) E s) (X : K.In h₀ := by k_asm) (hk : keepIn K f = true := by k_is) 
    (he : starEach (e :: rest) env = (false, eval e env) :: starEach rest env := by rfl) (hplain : (backTo pos (starEach rest env)).any (·.1) = false := by rfl) :
    wpAny M A (callWith pos f first (backTo pos (starEach (e :: rest) env)) []) Q E s := callWith_K X hk h he hplain
end
section
theorem memT {α : Type} {a x : α} {l : List α} (h : a ∈ l := by fail "mine mem") : a ∈ x :: l := .tail _ h
theorem memR {α : Type} {a : α} {l r : List α} (h : a ∈ r := by fail "mine mem") : a ∈ l ++ r := List.mem_append.mpr (.inr h)
theorem memL {α : Type} {a : α} {l r : List α} (h : a ∈ l := by fail "mine mem") : a ∈ l ++ r := List.mem_append.mpr (.inl h)
theorem remH {d : Addr} {o : Obj} {r : List (Addr × Obj)} (h : ∀ p ∈ r, p.1 ≠ d := by k_all) : Rem d o ((d, o) :: r) r := .head h
theorem remT {d : Addr} {o : Obj} {p : Addr × Obj} {r r' : List (Addr × Obj)} (n : p.1 ≠ d := by k_ne) (h : Rem d o r r' := by fail "mine rem") : Rem d o (p :: r) (p :: r') := .tail n h
theorem remsC {d : Addr} {o : Obj} {own n r rest : List (Addr × Obj)} (h : Rem d o n r := by fail "mine rem") (t : Rems own r rest := by fail "mine rems") : Rems ((d, o) :: own) n rest := .cons h t
theorem baseA {h₀ h : Heap} {L a : Addr} {o : Obj} {m : Str → Option Value} (F : Fr h₀ L h m := by with_reducible assumption) (e : h₀.get? a = some o := by fail "mine base") : h.get? a = some o := F.keep _ _ e
theorem baseB {h₀ h : Heap} {L a : Addr} {its : Array Value} {m : Str → Option Value} (F : Fr h₀ L h m := by with_reducible assumption) (e : h₀.IsList a its := by fail "mine baseL") : h.IsList a its := stays_list (Fr.keep F) e
theorem iteT {c : Prop} [Decidable c] {a b : Prop} (k : a) (h : c := by decide +kernel) : if c then a else b := by rw [if_pos h]; exact k
theorem iteF {c : Prop} [Decidable c] {a b : Prop} (k : b) (h : ¬ c := by decide +kernel) : if c then a else b := by rw [if_neg h]; exact k
theorem neL {a b : Nat} (h : @Ne Nat a b := by ((try dsimp only); first | with_reducible assumption | exact Ne.symm o3I | exact Ne.symm o3C | exact Ne.symm o3D | exact alN | fail)) : a ≠ b := h
end
section
variable {prog : Program} {w : World} {A : Around} {E : Value → Shared → Prop} {s : Shared} {h₀ : Heap} {L : Addr} {m : Str → Option Value} {env : Env}
theorem lcUA {elt iter : Expr} {x : Str} {px : Pos} {scope : Scope} {cl : List (Str × Addr)} {pos : Pos} {Q : Value → Shared → Prop} 
    (h : wpAny (model prog w) A (eval iter env) (LCg.CompSrc prog w A h₀ L m env elt x scope cl (fun s₂ => LCg.FinE h₀ L m s₂ Q)) E s) (F₀ : Fr h₀ L s.heap m := by k_asm)
    (hclos : closureFor scope env = pure cl := by with_unfolding_all rfl) (hcell : ∀ y ∈ scope.names, y.2 ≠ .cell := by decide) (hkind : scope.kind = .function := by rfl)
    (hnames : ∀ y ∈ scope.names, y.2 = .local → scope.names.lookup y.1 = some .local := by decide) (hx : scope.names.lookup x = some .local := by rfl)
    (hs : ∀ x, foldedSetIterable iter env x = pure x := by intro _; rfl) :
    wpAny (model prog w) A (eval (.ListComp elt [⟨.Name x px, iter, [], 0⟩] scope pos) env) Q E s := LCg.ListComp_U F₀ hclos hcell hkind hnames hx h hs
end
section
variable {M : Model} {A : Around} {E : Value → Shared → Prop} {s : Shared}
theorem compQ {x : Str} {px : Pos} {sc : Scope} {cl : List (Str × Addr)} {C : Addr} {env : Env} {Q : Value → Shared → Prop} (h : wpAny M A (eval (Expr.Name x px) (compEnvC sc cl C env)) Q E s) : wpAny M A (eval (Expr.Name x px) (compEnvC sc cl C env)) Q E s := h
end
section
set_option hygiene false in
local macro_rules | `(tactic| fail "fq") => `(tactic| ((try fail "nrm"); with_reducible refine foldQ ?_; intro qk))
set_option hygiene false in
local macro_rules | `(tactic| fail "im") => `(tactic| (intro mm; have bd : Bnd mm := Bnd.mk))
set_option hygiene false in
local macro_rules | `(tactic| fail "it") => `(tactic| intro tk)
set_option hygiene false in
local macro_rules | `(tactic| fail "nrm") => `(tactic| (refine' nrmS ?qze9 ?_; (case qze9 => dsimp only; exact rfl); intro tk))
set_option hygiene false in
local macro_rules | `(tactic| k_fold) => `(tactic| ((fail_if_success k_unfold); with_reducible refine foldQE ?_; intro qk ek))
local macro_rules | `(tactic| fail "unf") => `(tactic| first
  | ((fail_if_success (fail_if_success k_unfold)); (refine (?_ : wpAny _ _ _ _ _ _)); (try fail "nrm"))
  | (k_unfold; (try dsimp only)) | (k_unmd; k_unfold; (try dsimp only)))
set_option hygiene false in
local macro_rules | `(tactic| fail "bn") => `(tactic| (rename News _ _ _ _ => lN9; (fail_if_success (have bq := bndN lN9 (by with_reducible assumption))); refine (let nw : List (Addr × Obj) := _; have lN8 : News _ _ _ nw := lN9; ?_); clear lN9; have bd : Bnd nw := Bnd.mk; rename News _ _ _ _ => lN9))
set_option hygiene false in
local macro_rules | `(tactic| fail "bm") => `(tactic| (rename Fr _ _ _ _ => lF9; (fail_if_success (have bq := bndF lF9 (by with_reducible assumption))); refine (let mm : Str → Option Value := _; have lF8 : Fr _ _ _ mm := lF9; ?_); clear lF9; have bd : Bnd mm := Bnd.mk; rename Fr _ _ _ _ => lF9))
local macro_rules | `(tactic| k_sweep) => `(tactic| ((fail_if_success (fail_if_success (have bq : BnOn := by with_reducible assumption))); first | (fail "bn"; k_sweep) | (fail "bm"; k_sweep) | fail))
local macro_rules | `(tactic| k_all) => `(tactic| first | exact allA | exact ltA | exact List.forall_mem_nil _ | exact allC | fail)
local macro_rules | `(tactic| k_room) => `(tactic| ktr_room)
local macro_rules | `(tactic| k_units) => `(tactic| ktr_units)
local macro_rules | `(tactic| units_room) => `(tactic| ktr_units)
local macro_rules | `(tactic| k_ne) => `(tactic| first | exact neB | exact Ne.symm neB | exact neC | fail)
local macro_rules | `(tactic| walk_at "FinE") => `(tactic| ((unfold LCg.FinE); intro D' h' tk' F' N' o1'; (try simp only [List.nil_append, List.cons_append] at N'); (try dsimp only)))
local macro_rules | `(tactic| fail "mine rem") => `(tactic| first | (refine' Rem.head ?qa; (case qa => k_all)) | (refine' Rem.tail ?qa ?qb; (case qa => k_ne); (case qb => fail "mine rem")))
local macro_rules | `(tactic| fail "mine rems") => `(tactic| first | exact Rems.nil | (refine' Rems.cons ?qa ?qb; (case qa => fail "mine rem"); (case qb => fail "mine rems")))
local macro_rules | `(tactic| walk_at "eval Call") => `(tactic| (k_here; k_dflt (refine Call_ ?_)))
local macro_rules | `(tactic| walk_at "eval Call Attribute") => `(tactic| (k_here; k_dflt (refine MethodCall_ ?_)))
local macro_rules | `(tactic| k_inst) => `(tactic| first | exact instB | exact instA | fail)
local macro_rules | `(tactic| fail "mine base") => `(tactic| first | assumption | exact baseA | fail)
local macro_rules | `(tactic| walk_at "call builtin:len") => `(tactic| (k_here; k_dflt (refine lenA ?_)))
local macro_rules | `(tactic| fail "mine baseL") => `(tactic| first | assumption | exact baseB | fail)
local macro_rules | `(tactic| is_list) => `(tactic| fail "mine baseL")
local macro_rules | `(tactic| walk_at "pyIter ref") => `(tactic| k_dflt (fail "mine loop"))
local macro_rules | `(tactic| fail "mine sub") => `(tactic| first | exact List.forall_mem_nil _ | (intro q9 hq9; fail "mine mem"))
local macro_rules | `(tactic| fail "mine mem") => `(tactic| first | assumption | exact memT | exact memR | exact memL | fail)
set_option hygiene false in
local macro_rules | `(tactic| walk_at "call type:range") => `(tactic| (k_here; k_dflt (first | refine rng2A ?_ | refine rng1A ?_ | refine rng3A ?_); (intro h' tk' t' u' v' rg' F' N'); (try k_sweep); (try k_fold)))
local macro_rules | `(tactic| walk_at "exec For Name Call cons nil") => `(tactic| (k_here; (with_unfolding_all refine forA ?_); (try k_fold)))
local macro_rules | `(tactic| walk_at "InvPostN") => `(tactic| (dsimp only [InvPostN]; k_unmd))
local macro_rules | `(tactic| walk_at "PostX") => `(tactic| (dsimp only [PostX]; k_unmd))
local macro_rules | `(tactic| fail "sub9") => `(tactic| (k_here; first | k_dflt (refine tupB ?_) | (k_dflt (refine intA ?_); intro _)))
local macro_rules | `(tactic| walk_at $s) => `(tactic| fail $s)
local macro_rules | `(tactic| fail "sub8") => `(tactic| first | fail "sub9" | (k_here; k_dflt (refine tupA ?_)) | (k_here; kim_at))
local macro_rules | `(tactic| walk_at "subscriptTail") => `(tactic| fail "sub9")
local macro_rules | `(tactic| walk_at "subscriptTail Name Constant ref int") => `(tactic| fail "sub8")
local macro_rules | `(tactic| walk_at "subscriptTail Subscript Name Constant Constant ref int") => `(tactic| fail "sub8")
local macro_rules | `(tactic| walk_at "subscriptTail Subscript Attribute Name Constant ref int") => `(tactic| (k_here; k_dflt (refine turnA ?_)))
local macro_rules | `(tactic| fail "ih") => `(tactic| (intro h'; fail "im"; intro F' N'; fail "it"; (try k_sweep)))
local macro_rules | `(tactic| fail "cw") => `(tactic| (k_here; k_dflt (first | refine callWith_K0F ?_ | refine cwA ?_)))
local macro_rules | `(tactic| walk_at "eval Name") => `(tactic| (k_here; (fail_if_success (with_reducible refine compQ ?_)); k_dflt (first | refine name_L ?_ | refine name_G ?_ | refine name_C ?_ | refine name_I ?_)))
local macro_rules | `(tactic| walk_at "storeName") => `(tactic| (k_here; (try fail "nrm"); k_dflt (refine store_L ?_); fail "ih"))
local macro_rules | `(tactic| walk_at "getAttr ref") => `(tactic| (k_here; (try fail "nrm"); k_dflt (refine get_ownA ?_); fail "it"))
local macro_rules | `(tactic| walk_at "exec Raise some none") => `(tactic| refine Raise_new rfl ?_)
local macro_rules | `(tactic| walk_at "callWith builtin:list.append cons nil") => `(tactic| refine callWith_method1 ?_)
local macro_rules | `(tactic| walk_at "callWith ref cons nil") => `(tactic| fail "cw")
local macro_rules | `(tactic| walk_at "callWith ref nil nil") => `(tactic| fail "cw")
local macro_rules | `(tactic| k_in) => `(tactic| first | with_reducible assumption | exact kin_of (by k_asm) (by k_asm))
local macro_rules | `(tactic| walk_at "spliced") => `(tactic| (k_here; (try fail "nrm"); k_dflt (first | refine args_sevs ?_ | refine args_sev1 ?_); fail "it"; (try dsimp only [List.cons_append, List.nil_append])))
local macro_rules | `(tactic| ktr_room) => `(tactic| first | exact room1 | exact room2 | exact room3 | fail)
local macro_rules | `(tactic| ktr_units) => `(tactic| first | exact room1 | exact room2 | exact room3 | exact room0 | fail)
local macro_rules | `(tactic| k_lt $h) => `(tactic| replace $h := allLt_of $h)
local macro_rules | `(tactic| fail "callG") => `(tactic| (k_here; (try fail "nrm"); k_dflt (first | refine CallS ?_ | refine CallI ?_); fail "it"; (try k_fold)))
local macro_rules | `(tactic| walk_at "eval Call Name cons nil") => `(tactic| fail "callG")
local macro_rules | `(tactic| walk_at "eval Call Name nil nil") => `(tactic| fail "callG")
local macro_rules | `(tactic| walk_at "eval Attribute Name") => `(tactic| (k_here; (try fail "nrm"); k_dflt (refine AttrL ?_); fail "it"))
local macro_rules | `(tactic| fail "methG") => `(tactic| (k_here; (try fail "nrm"); k_dflt (refine MethS ?_); fail "it"; (try k_fold)))
local macro_rules | `(tactic| walk_at "eval Call Attribute cons nil") => `(tactic| fail "methG")
local macro_rules | `(tactic| walk_at "eval Call Attribute nil nil") => `(tactic| fail "methG")
local macro_rules | `(tactic| fail "ifS") => `(tactic| (k_here; (try fail "nrm"); k_dflt (refine If_cmp ?_); fail "it"))
local macro_rules | `(tactic| walk_at "exec If Compare cons nil") => `(tactic| fail "ifS")
local macro_rules | `(tactic| walk_at "exec If Compare cons cons") => `(tactic| fail "ifS")
local macro_rules | `(tactic| walk_at "isTrue Compare") => `(tactic| (k_here; (try fail "nrm"); k_dflt (refine isTrue_cmp ?_); fail "it"))
local macro_rules | `(tactic| walk_at "exec Return some") => `(tactic| (k_here; (try fail "nrm"); k_dflt (refine Return_sev ?_); fail "it"))
local macro_rules | `(tactic| fail "assignS") => `(tactic| (k_here; (try fail "nrm"); k_dflt (refine Assign_sev ?_); fail "ih"))
local macro_rules | `(tactic| walk_at "exec Assign cons Name") => `(tactic| fail "assignS")
local macro_rules | `(tactic| walk_at "exec Assign cons Constant") => `(tactic| fail "assignS")
local macro_rules | `(tactic| walk_at "exec Assign cons BinOp") => `(tactic| fail "assignS")
local macro_rules | `(tactic| walk_at "exec Assign cons UnaryOp") => `(tactic| fail "assignS")
local macro_rules | `(tactic| walk_at "eval BinOp") => `(tactic| (k_here; (try fail "nrm"); k_dflt (refine eval_sev (n := 4) ?_); fail "it"))
set_option hygiene false in
local macro_rules | `(tactic| walk_at "execs cons") => `(tactic| ((try fail "nrm"); refine execsL ?_; intro qk))
local macro_rules | `(tactic| ksw_same) => `(tactic| (dsimp +zetaDelta only; ksw_same))
local macro_rules | `(tactic| fail "wide") => `(tactic| (rename News _ _ _ _ => lN9; dsimp +zetaDelta only at lN9))
local macro_rules | `(tactic| walk_at "CompEnd") => `(tactic| fail "wide")
local macro_rules | `(tactic| walk_at "CompSrc") => `(tactic| fail "wide")
local macro_rules | `(tactic| walk_at "eval ListComp") => `(tactic| fail "wide")
local macro_rules | `(tactic| walk_at "exec Assign cons ListComp") => `(tactic| fail "wide")
theorem zfill_all : Mine.kx.heap_1 = Mine.kx.heap_1 ∧ PySem.Challenge.rw_np0108_01 = PySem.Challenge.rw_np0108_01 := by (k_fill; exact ⟨rfl, rfl⟩)
section
theorem downcase_c (w : World) (code : Int) (t : Tok) : CtP Mine.kx.heap_1 w 28 NoPre 1 8 [.int code t] (PI (dc code)) := by
  ((first | (k_dflt (refine' CtP.mkP ?qk6 ?qk7 ?qk9 ?qkB ?qkz ?qc2 ?qc3 ?qc4 ?qc5 ?_; (((((case qk6 => k_is); (case qk7 => k_is); (case qk9 => rfl); (case qc2 => exact rfl); (case qc3 => exact rfl); (case qc4 => exact rfl))); (case qc5 => decide +kernel); (case qkB => exact locs rfl); (case qkz => dsimp only [List.map, List.zip, List.zipWith, List.reverse, List.reverseAux]; try exact rfl); k_whole))); intro p loose mean mg mb dp un gd env outer base sh sg sd so Q E hdp hu hp hret L₁ h₁ tk₁ mm F₁ N₁ B₁ X₁ T₁ A₁ qk ek gk; have bo := BnOn.mk; have bd : Bnd mm := Bnd.mk) | (k_dflt (refine' CtP.mkC ?qk6 ?qk7 ?qk9 ?qkB ?qkD ?qc2 ?qc3 ?qc4 ?_; (((((case qk6 => k_is); (case qk7 => k_is); (case qk9 => rfl); (case qc2 => exact rfl); (case qc3 => exact rfl); (case qc4 => exact rfl))); (case qkB => exact rfl); (case qkD => decide +kernel); k_whole))); intro p loose mean mg mb dp un gd env outer base sh sg sd so Q E hdp hu hp hret L₁ h₁ tk₁ cells₁ mm F₁ N₁ Y₁ B₁ X₁ T₁ A₁ qk ek gk; have bo := BnOn.mk; have bd : Bnd mm := Bnd.mk; k_cells Y₁; (try (fail "bn"; rename News _ _ _ _ => N₁)))))
  repeat' ((fail_if_success (with_reducible show Q _ _)); first | fail "unf" | (k_end; wrow_close) | ((with_reducible show wpAny _ _ (call (Value.ref _) _) _ _ _); first | ((k_here; k_dflt ((fail "mine useP"); (case qzB => k_asm); (case qzF => k_asm); (case qzX => k_asm); (case qzN => k_asm); (case qzT => k_asm); (case qzK1 => first | exact rfl | assumption); (case qzK => first | exact rfl | assumption); (case qzp => first | trivial | (exact ViewIn.keeps (Fr.keep (by k_asm)) (by assumption))); (case qzd => ktr_room); (case qzu => ktr_units); (focus (((first | (intro cv ch ctk cS F9 N9 cl cL cP; have cP1 := PI.out cP; clear cP cS; obtain ⟨ct9, cV⟩ := cP1; subst cV) | (intro cv ch ctk cS F9 N9 cl cL cP; have cP1 := PB.out cP; clear cP cS; subst cP1))); all_goals ((try k_sweep); (try dsimp only); (try k_fold))))))) | fail) | walk1 | (dsimp only; walk1) | (leave1; try dsimp only) | (dsimp only) | fail "no step")
  all_goals (((refine hret _ _ _ (Fr.keep (by k_asm)) ?_)); refine PI.mk ?_; unfold dc; (try simp only [decide_eq_true_eq, decide_eq_false_iff_not, Int.not_le] at *); split <;> omega)

theorem fold_c (w : World) (code : Int) (t : Tok) : CtP Mine.kx.heap_1 w 42 NoPre 2 16 [.int code t] (PI (dc code)) := by
  ((first | (k_dflt (refine' CtP.mkP ?qk6 ?qk7 ?qk9 ?qkB ?qkz ?qc2 ?qc3 ?qc4 ?qc5 ?_; (((((case qk6 => k_is); (case qk7 => k_is); (case qk9 => rfl); (case qc2 => exact rfl); (case qc3 => exact rfl); (case qc4 => exact rfl))); (case qc5 => decide +kernel); (case qkB => exact locs rfl); (case qkz => dsimp only [List.map, List.zip, List.zipWith, List.reverse, List.reverseAux]; try exact rfl); k_whole))); intro p loose mean mg mb dp un gd env outer base sh sg sd so Q E hdp hu hp hret L₁ h₁ tk₁ mm F₁ N₁ B₁ X₁ T₁ A₁ qk ek gk; have bo := BnOn.mk; have bd : Bnd mm := Bnd.mk) | (k_dflt (refine' CtP.mkC ?qk6 ?qk7 ?qk9 ?qkB ?qkD ?qc2 ?qc3 ?qc4 ?_; (((((case qk6 => k_is); (case qk7 => k_is); (case qk9 => rfl); (case qc2 => exact rfl); (case qc3 => exact rfl); (case qc4 => exact rfl))); (case qkB => exact rfl); (case qkD => decide +kernel); k_whole))); intro p loose mean mg mb dp un gd env outer base sh sg sd so Q E hdp hu hp hret L₁ h₁ tk₁ cells₁ mm F₁ N₁ Y₁ B₁ X₁ T₁ A₁ qk ek gk; have bo := BnOn.mk; have bd : Bnd mm := Bnd.mk; k_cells Y₁; (try (fail "bn"; rename News _ _ _ _ => N₁)))))
  repeat' ((fail_if_success (with_reducible show Q _ _)); first | fail "unf" | (k_end; wrow_close) | ((with_reducible show wpAny _ _ (call (Value.ref _) _) _ _ _); first | ((k_here; k_dflt ((((fail "fq"; refine' CtP.use ?qzC ?qzB ?qzF ?qzX ?qzN ?qzT ?qzK1 ?qzK ?qzp ?qzd ?qzu ?_; (case qzC => ((exact downcase_c _ _ _)))))); (case qzB => k_asm); (case qzF => k_asm); (case qzX => k_asm); (case qzN => k_asm); (case qzT => k_asm); (case qzK1 => first | exact rfl | assumption); (case qzK => first | exact rfl | assumption); (case qzp => first | trivial | (exact ViewIn.keeps (Fr.keep (by k_asm)) (by assumption))); (case qzd => ktr_room); (case qzu => ktr_units); (focus (((first | (intro cv ch ctk cS F9 N9 cl cL cP; have cP1 := PI.out cP; clear cP cS; obtain ⟨ct9, cV⟩ := cP1; subst cV) | (intro cv ch ctk cS F9 N9 cl cL cP; have cP1 := PB.out cP; clear cP cS; subst cP1))); all_goals ((try k_sweep); (try dsimp only); (try k_fold))))))) | fail) | walk1 | (dsimp only; walk1) | (leave1; try dsimp only) | (dsimp only) | fail "no step")
  all_goals (((refine hret _ _ _ (Fr.keep (by k_asm)) ?_)); exact PI.mk rfl)

theorem code_at_c (w : World) (x : Addr) (cds : List Int) (bs place : Int) (t : Tok) : CtP Mine.kx.heap_1 w 623 (fun h => ViewIn h x cds bs) 1 8 [.ref x, .int place t] (PI (codeAt cds bs place)) := by
  ((first | (k_dflt (refine' CtP.mkP ?qk6 ?qk7 ?qk9 ?qkB ?qkz ?qc2 ?qc3 ?qc4 ?qc5 ?_; (((((case qk6 => k_is); (case qk7 => k_is); (case qk9 => rfl); (case qc2 => exact rfl); (case qc3 => exact rfl); (case qc4 => exact rfl))); (case qc5 => decide +kernel); (case qkB => exact locs rfl); (case qkz => dsimp only [List.map, List.zip, List.zipWith, List.reverse, List.reverseAux]; try exact rfl); k_whole))); intro p loose mean mg mb dp un gd env outer base sh sg sd so Q E hdp hu hp hret L₁ h₁ tk₁ mm F₁ N₁ B₁ X₁ T₁ A₁ qk ek gk; have bo := BnOn.mk; have bd : Bnd mm := Bnd.mk) | (k_dflt (refine' CtP.mkC ?qk6 ?qk7 ?qk9 ?qkB ?qkD ?qc2 ?qc3 ?qc4 ?_; (((((case qk6 => k_is); (case qk7 => k_is); (case qk9 => rfl); (case qc2 => exact rfl); (case qc3 => exact rfl); (case qc4 => exact rfl))); (case qkB => exact rfl); (case qkD => decide +kernel); k_whole))); intro p loose mean mg mb dp un gd env outer base sh sg sd so Q E hdp hu hp hret L₁ h₁ tk₁ cells₁ mm F₁ N₁ Y₁ B₁ X₁ T₁ A₁ qk ek gk; have bo := BnOn.mk; have bd : Bnd mm := Bnd.mk; k_cells Y₁; (try (fail "bn"; rename News _ _ _ _ => N₁)))))
  refine ViewIn.elim (hp) fun dx l vs n h1 h2 t1 t2 tb hx hdx hl hi hlen hb => ?_
  repeat' ((fail_if_success (with_reducible show Q _ _)); first | fail "unf" | (k_end; wrow_close) | ((with_reducible show wpAny _ _ (call (Value.ref _) _) _ _ _); first | ((k_here; k_dflt ((((fail "fq"; refine' CtP.use ?qzC ?qzB ?qzF ?qzX ?qzN ?qzT ?qzK1 ?qzK ?qzp ?qzd ?qzu ?_; (case qzC => ((exact downcase_c _ _ _)))))); (case qzB => k_asm); (case qzF => k_asm); (case qzX => k_asm); (case qzN => k_asm); (case qzT => k_asm); (case qzK1 => first | exact rfl | assumption); (case qzK => first | exact rfl | assumption); (case qzp => first | trivial | (exact ViewIn.keeps (Fr.keep (by k_asm)) (by assumption))); (case qzd => ktr_room); (case qzu => ktr_units); (focus (((first | (intro cv ch ctk cS F9 N9 cl cL cP; have cP1 := PI.out cP; clear cP cS; obtain ⟨ct9, cV⟩ := cP1; subst cV) | (intro cv ch ctk cS F9 N9 cl cL cP; have cP1 := PB.out cP; clear cP cS; subst cP1))); all_goals ((try k_sweep); (try dsimp only); (try k_fold))))))) | fail) | walk1 | (dsimp only; walk1) | (leave1; try dsimp only) | (dsimp only) | fail "no step")
  all_goals (((refine hret _ _ _ (Fr.keep (by k_asm)) ?_)); refine PI.mk ?_; unfold codeAt; (try simp only [decide_eq_true_eq, decide_eq_false_iff_not, Int.not_le, Int.not_lt] at *); first | rw [if_pos (by omega)] | rw [if_neg (by omega)])
end
section
noncomputable def eqv (folds : Bool) (a b : Int) : Bool := decide (a = b) || (folds && decide (dc a = dc b))
-- the part stands at the place
noncomputable def isHere (cds : List Int) (bs : Int) (folds : Bool) (ps : List Int) (place : Int) : Bool := (List.range ps.length).all fun i => eqv folds (codeAt cds bs (place + i)) (ps.getD i 0)
theorem isHere_no {cds : List Int} {bs : Int} {folds : Bool} {ps : List Int} {place : Int} {i : Nat} {a : Int} (h : ps[i]? = some a) (e : eqv folds (codeAt cds bs (place + i)) a = false) : isHere cds bs folds ps place = false := by
  obtain ⟨hi, rfl⟩ := List.getElem?_eq_some_iff.mp h
  unfold isHere
  rw [List.all_eq_false]
  exact ⟨i, List.mem_range.mpr hi, by rw [List.getD_eq_getElem?_getD, h]; simpa using e⟩
theorem isHere_step {cds : List Int} {bs : Int} {folds : Bool} {ps : List Int} {place : Int} {i : Nat} {a : Int} (h : ps[i]? = some a) (e : eqv folds (codeAt cds bs (place + i)) a = true)
    (p : ∀ j, j < i → eqv folds (codeAt cds bs (place + j)) (ps.getD j 0) = true) : ∀ j, j < i + 1 → eqv folds (codeAt cds bs (place + j)) (ps.getD j 0) = true := by
  intro j hj
  rcases Nat.lt_succ_iff_lt_or_eq.mp hj with h1 | rfl
  · exact p j h1
  · rw [List.getD_eq_getElem?_getD, h]; exact e
theorem isHere_yes {cds : List Int} {bs : Int} {folds : Bool} {ps : List Int} {place : Int} (p : ∀ j, j < ps.length → eqv folds (codeAt cds bs (place + j)) (ps.getD j 0) = true) : isHere cds bs folds ps place = true := by
  unfold isHere
  rw [List.all_eq_true]
  intro i hi
  exact p i (List.mem_range.mp hi)

theorem is_here_c (w : World) (x l : Addr) (cds ps : List Int) (bs place : Int) (t : Tok) (folds : Bool) :
    CtP Mine.kx.heap_1 w 637 (fun h => ViewIn h x cds bs ∧ IntsIn h l ps) 3 40 [.ref x, .ref l, .int place t, .bool folds] (PB (isHere cds bs folds ps place)) := by
  ((first | (k_dflt (refine' CtP.mkP ?qk6 ?qk7 ?qk9 ?qkB ?qkz ?qc2 ?qc3 ?qc4 ?qc5 ?_; (((((case qk6 => k_is); (case qk7 => k_is); (case qk9 => rfl); (case qc2 => exact rfl); (case qc3 => exact rfl); (case qc4 => exact rfl))); (case qc5 => decide +kernel); (case qkB => exact locs rfl); (case qkz => dsimp only [List.map, List.zip, List.zipWith, List.reverse, List.reverseAux]; try exact rfl); k_whole))); intro p loose mean mg mb dp un gd env outer base sh sg sd so Q E hdp hu hp hret L₁ h₁ tk₁ mm F₁ N₁ B₁ X₁ T₁ A₁ qk ek gk; have bo := BnOn.mk; have bd : Bnd mm := Bnd.mk) | (k_dflt (refine' CtP.mkC ?qk6 ?qk7 ?qk9 ?qkB ?qkD ?qc2 ?qc3 ?qc4 ?_; (((((case qk6 => k_is); (case qk7 => k_is); (case qk9 => rfl); (case qc2 => exact rfl); (case qc3 => exact rfl); (case qc4 => exact rfl))); (case qkB => exact rfl); (case qkD => decide +kernel); k_whole))); intro p loose mean mg mb dp un gd env outer base sh sg sd so Q E hdp hu hp hret L₁ h₁ tk₁ cells₁ mm F₁ N₁ Y₁ B₁ X₁ T₁ A₁ qk ek gk; have bo := BnOn.mk; have bd : Bnd mm := Bnd.mk; k_cells Y₁; (try (fail "bn"; rename News _ _ _ _ => N₁)))))
  have hv : ViewIn sh x cds bs := hp.1
  refine ViewIn.elim (id hv) fun dx l' vs n h1 h2 t1 t2 tb hx hdx hl hi hlen hb => ?_
  obtain ⟨ws, hw, hwi⟩ := hp.2
  repeat' ((fail_if_success (with_reducible show Q _ _)); first | fail "unf" | (k_end; wrow_close) | ((with_reducible show InvEndN _ _ _ _ _ _ _); first | ((k_here; k_dflt (refine endA ?_ ?qsame; (case qsame => ((intro z h1 h2; (try dsimp +zetaDelta only); (simp only [List.contains_cons, List.contains_nil, Bool.or_false, Bool.or_eq_false_iff, beq_eq_false_iff_ne, ne_eq] at h1 h2); (simp [h1, h2]; done))))))) | fail) | ((with_reducible show wpAny _ _ (call (Value.ref _) _) _ _ _); first | ((k_here; k_dflt ((((fail "fq"; refine' CtP.use ?qzC ?qzB ?qzF ?qzX ?qzN ?qzT ?qzK1 ?qzK ?qzp ?qzd ?qzu ?_; (case qzC => (first | ((exact code_at_c w x cds bs _ _)) | ((exact fold_c _ _ _))))))); (case qzB => k_asm); (case qzF => k_asm); (case qzX => k_asm); (case qzN => k_asm); (case qzT => k_asm); (case qzK1 => first | exact rfl | assumption); (case qzK => first | exact rfl | assumption); (case qzp => first | trivial | (exact ViewIn.keeps (Fr.keep (by k_asm)) (by assumption))); (case qzd => ktr_room); (case qzu => ktr_units); (focus (((first | (intro cv ch ctk cS F9 N9 cl cL cP; have cP1 := PI.out cP; clear cP cS; obtain ⟨ct9, cV⟩ := cP1; subst cV) | (intro cv ch ctk cS F9 N9 cl cL cP; have cP1 := PB.out cP; clear cP cS; subst cP1))); all_goals ((try k_sweep); (try dsimp only); (try k_fold))))))) | fail) | ((with_reducible show wpAny _ _ (pyIter (Value.ref _)) _ _ _); k_dflt (((refine pair_plain [Str.ofString "other"] (fun i => ∀ j, j < i → eqv folds (codeAt cds bs (place + j)) (ps.getD j 0) = true) (PairSrcL.at (by assumption) _ rfl) (fun _ h => absurd h (Nat.not_lt_zero _)) (fun i' a' t' tv' u' h' tk' own' ha' hP' hoff' F' N' => ?_) (fun u' h' tk' hP' F' N' => ?_) <;> (try k_fold))))) | walk1 | (dsimp only; walk1) | (leave1; try dsimp only) | (dsimp only) | fail "no step")
  all_goals first
    | (((refine hret _ _ _ (Fr.keep (by k_asm)) ?_)); refine PB.mk ?_; exact (isHere_yes hP').symm)
    | (((refine hret _ _ _ (Fr.keep (by k_asm)) ?_)); refine PB.mk ?_; exact (isHere_no ha' (by unfold eqv; simp_all)).symm)
    | (refine isHere_step ha' ?_ hP' _ (by assumption); unfold eqv; simp_all)
end
section
theorem begin_c (w : World) (x : Addr) (cds : List Int) (bs : Int) : CtP Mine.kx.heap_1 w 609 (fun h => ViewIn h x cds bs) 1 8 [.ref x] (PI bs) := by
  ((first | (k_dflt (refine' CtP.mkP ?qk6 ?qk7 ?qk9 ?qkB ?qkz ?qc2 ?qc3 ?qc4 ?qc5 ?_; (((((case qk6 => k_is); (case qk7 => k_is); (case qk9 => rfl); (case qc2 => exact rfl); (case qc3 => exact rfl); (case qc4 => exact rfl))); (case qc5 => decide +kernel); (case qkB => exact locs rfl); (case qkz => dsimp only [List.map, List.zip, List.zipWith, List.reverse, List.reverseAux]; try exact rfl); k_whole))); intro p loose mean mg mb dp un gd env outer base sh sg sd so Q E hdp hu hp hret L₁ h₁ tk₁ mm F₁ N₁ B₁ X₁ T₁ A₁ qk ek gk; have bo := BnOn.mk; have bd : Bnd mm := Bnd.mk) | (k_dflt (refine' CtP.mkC ?qk6 ?qk7 ?qk9 ?qkB ?qkD ?qc2 ?qc3 ?qc4 ?_; (((((case qk6 => k_is); (case qk7 => k_is); (case qk9 => rfl); (case qc2 => exact rfl); (case qc3 => exact rfl); (case qc4 => exact rfl))); (case qkB => exact rfl); (case qkD => decide +kernel); k_whole))); intro p loose mean mg mb dp un gd env outer base sh sg sd so Q E hdp hu hp hret L₁ h₁ tk₁ cells₁ mm F₁ N₁ Y₁ B₁ X₁ T₁ A₁ qk ek gk; have bo := BnOn.mk; have bd : Bnd mm := Bnd.mk; k_cells Y₁; (try (fail "bn"; rename News _ _ _ _ => N₁)))))
  refine ViewIn.elim (hp) fun dx l vs n h1 h2 t1 t2 tb hx hdx hl hi hlen hb => ?_
  repeat' ((fail_if_success (with_reducible show Q _ _)); first | fail "unf" | (k_end; wrow_close) | ((with_reducible show wpAny _ _ (call (Value.ref _) _) _ _ _); first | ((k_here; k_dflt ((fail "mine useP"); (case qzB => k_asm); (case qzF => k_asm); (case qzX => k_asm); (case qzN => k_asm); (case qzT => k_asm); (case qzK1 => first | exact rfl | assumption); (case qzK => first | exact rfl | assumption); (case qzp => first | trivial | (exact ViewIn.keeps (Fr.keep (by k_asm)) (by assumption))); (case qzd => ktr_room); (case qzu => ktr_units); (focus (((first | (intro cv ch ctk cS F9 N9 cl cL cP; have cP1 := PI.out cP; clear cP cS; obtain ⟨ct9, cV⟩ := cP1; subst cV) | (intro cv ch ctk cS F9 N9 cl cL cP; have cP1 := PB.out cP; clear cP cS; subst cP1))); all_goals ((try k_sweep); (try dsimp only); (try k_fold))))))) | fail) | walk1 | (dsimp only; walk1) | (leave1; try dsimp only) | (dsimp only) | fail "no step")
  all_goals (((refine hret _ _ _ (Fr.keep (by k_asm)) ?_)); exact PI.mk rfl)
theorem end_c (w : World) (x : Addr) (cds : List Int) (bs : Int) : CtP Mine.kx.heap_1 w 616 (fun h => ViewIn h x cds bs) 1 8 [.ref x] (PI (bs + cds.length)) := by
  ((first | (k_dflt (refine' CtP.mkP ?qk6 ?qk7 ?qk9 ?qkB ?qkz ?qc2 ?qc3 ?qc4 ?qc5 ?_; (((((case qk6 => k_is); (case qk7 => k_is); (case qk9 => rfl); (case qc2 => exact rfl); (case qc3 => exact rfl); (case qc4 => exact rfl))); (case qc5 => decide +kernel); (case qkB => exact locs rfl); (case qkz => dsimp only [List.map, List.zip, List.zipWith, List.reverse, List.reverseAux]; try exact rfl); k_whole))); intro p loose mean mg mb dp un gd env outer base sh sg sd so Q E hdp hu hp hret L₁ h₁ tk₁ mm F₁ N₁ B₁ X₁ T₁ A₁ qk ek gk; have bo := BnOn.mk; have bd : Bnd mm := Bnd.mk) | (k_dflt (refine' CtP.mkC ?qk6 ?qk7 ?qk9 ?qkB ?qkD ?qc2 ?qc3 ?qc4 ?_; (((((case qk6 => k_is); (case qk7 => k_is); (case qk9 => rfl); (case qc2 => exact rfl); (case qc3 => exact rfl); (case qc4 => exact rfl))); (case qkB => exact rfl); (case qkD => decide +kernel); k_whole))); intro p loose mean mg mb dp un gd env outer base sh sg sd so Q E hdp hu hp hret L₁ h₁ tk₁ cells₁ mm F₁ N₁ Y₁ B₁ X₁ T₁ A₁ qk ek gk; have bo := BnOn.mk; have bd : Bnd mm := Bnd.mk; k_cells Y₁; (try (fail "bn"; rename News _ _ _ _ => N₁)))))
  refine ViewIn.elim (hp) fun dx l vs n h1 h2 t1 t2 tb hx hdx hl hi hlen hb => ?_
  repeat' ((fail_if_success (with_reducible show Q _ _)); first | fail "unf" | (k_end; wrow_close) | ((with_reducible show wpAny _ _ (call (Value.ref _) _) _ _ _); first | ((k_here; k_dflt ((fail "mine useP"); (case qzB => k_asm); (case qzF => k_asm); (case qzX => k_asm); (case qzN => k_asm); (case qzT => k_asm); (case qzK1 => first | exact rfl | assumption); (case qzK => first | exact rfl | assumption); (case qzp => first | trivial | (exact ViewIn.keeps (Fr.keep (by k_asm)) (by assumption))); (case qzd => ktr_room); (case qzu => ktr_units); (focus (((first | (intro cv ch ctk cS F9 N9 cl cL cP; have cP1 := PI.out cP; clear cP cS; obtain ⟨ct9, cV⟩ := cP1; subst cV) | (intro cv ch ctk cS F9 N9 cl cL cP; have cP1 := PB.out cP; clear cP cS; subst cP1))); all_goals ((try k_sweep); (try dsimp only); (try k_fold))))))) | fail) | walk1 | (dsimp only; walk1) | (leave1; try dsimp only) | (dsimp only) | fail "no step")
  all_goals (((refine hret _ _ _ (Fr.keep (by k_asm)) ?_)); exact PI.mk rfl)

-- the search ahead, as the program reckons it
noncomputable def searchF (cds : List Int) (bs : Int) (folds : Bool) (ps : List Int) (place bound : Int) : Option (Int × Int) :=
  (findUp (isHere cds bs folds ps) place (min bound (bs + cds.length) - ps.length + 1 - place).toNat).map fun a => (a, a + ps.length)
noncomputable def searchB (cds : List Int) (bs : Int) (folds : Bool) (ps : List Int) (place bound : Int) : Option (Int × Int) :=
  (findDown (isHere cds bs folds ps) (place - ps.length) (place - ps.length - (max bound bs - 1)).toNat).map fun a => (a, a + ps.length)

theorem min_ite {a b : Int} : min a b = if b < a then b else a := by split <;> omega
theorem max_ite {a b : Int} : max a b = if b > a then b else a := by split <;> omega
theorem search_forward_c (w : World) (x l : Addr) (cds ps : List Int) (bs place bound : Int) (t u : Tok) (folds : Bool) :
    CtP Mine.kx.heap_1 w 644 (fun h => ViewIn h x cds bs ∧ IntsIn h l ps ∧ ps.length ≤ 1000 ∧ -1000000 < place ∧ place < 1000000 ∧ -1000000 < bound ∧ bound < 1000000) 4 60 [.ref x, .int place t, .ref l, .int bound u, .bool folds] (PF (searchF cds bs folds ps place bound)) := by
  ((first | (k_dflt (refine' CtP.mkP ?qk6 ?qk7 ?qk9 ?qkB ?qkz ?qc2 ?qc3 ?qc4 ?qc5 ?_; (((((case qk6 => k_is); (case qk7 => k_is); (case qk9 => rfl); (case qc2 => exact rfl); (case qc3 => exact rfl); (case qc4 => exact rfl))); (case qc5 => decide +kernel); (case qkB => exact locs rfl); (case qkz => dsimp only [List.map, List.zip, List.zipWith, List.reverse, List.reverseAux]; try exact rfl); k_whole))); intro p loose mean mg mb dp un gd env outer base sh sg sd so Q E hdp hu hp hret L₁ h₁ tk₁ mm F₁ N₁ B₁ X₁ T₁ A₁ qk ek gk; have bo := BnOn.mk; have bd : Bnd mm := Bnd.mk) | (k_dflt (refine' CtP.mkC ?qk6 ?qk7 ?qk9 ?qkB ?qkD ?qc2 ?qc3 ?qc4 ?_; (((((case qk6 => k_is); (case qk7 => k_is); (case qk9 => rfl); (case qc2 => exact rfl); (case qc3 => exact rfl); (case qc4 => exact rfl))); (case qkB => exact rfl); (case qkD => decide +kernel); k_whole))); intro p loose mean mg mb dp un gd env outer base sh sg sd so Q E hdp hu hp hret L₁ h₁ tk₁ cells₁ mm F₁ N₁ Y₁ B₁ X₁ T₁ A₁ qk ek gk; have bo := BnOn.mk; have bd : Bnd mm := Bnd.mk; k_cells Y₁; (try (fail "bn"; rename News _ _ _ _ => N₁)))))
  have hv : ViewIn sh x cds bs := hp.1
  refine ViewIn.elim (id hv) fun dx l' vs n h1 h2 t1 t2 tb hx hdx hl hi hlen hb => ?_
  have hq : IntsIn sh l ps := hp.2.1
  obtain ⟨ws, hw, hwi⟩ := id hq
  have hps := hp.2.2
  repeat' ((fail_if_success (with_reducible show Q _ _)); first | fail "unf" | (k_end; wrow_close) | ((with_reducible show InvEndN _ _ _ _ _ _ _); first | ((k_here; k_dflt (refine endA ?_ ?qsame; (case qsame => ((intro z h1 h2; (try dsimp +zetaDelta only); (simp only [List.contains_cons, List.contains_nil, Bool.or_false, Bool.or_eq_false_iff, beq_eq_false_iff_ne, ne_eq] at h1 h2); (simp [h1, h2]; done))))))) | fail) | ((with_reducible show wpAny _ _ (call (Value.ref _) _) _ _ _); first | ((k_here; k_dflt ((((fail "fq"; refine' CtP.use ?qzC ?qzB ?qzF ?qzX ?qzN ?qzT ?qzK1 ?qzK ?qzp ?qzd ?qzu ?_; (case qzC => (first | (exact end_c w x cds bs) | (exact is_here_c w x l cds ps bs _ _ folds)))))); (case qzB => k_asm); (case qzF => k_asm); (case qzX => k_asm); (case qzN => k_asm); (case qzT => k_asm); (case qzK1 => first | exact rfl | assumption); (case qzK => first | exact rfl | assumption); (case qzp => first | trivial | (first | (exact ⟨ViewIn.keeps (Fr.keep (by k_asm)) (by assumption), IntsIn.keeps (Fr.keep (by k_asm)) (by assumption)⟩) | (exact ViewIn.keeps (Fr.keep (by k_asm)) (by assumption)))); (case qzd => ktr_room); (case qzu => ktr_units); (focus (((first | (intro cv ch ctk cS F9 N9 cl cL cP; have cP1 := PI.out cP; clear cP cS; obtain ⟨ct9, cV⟩ := cP1; subst cV) | (intro cv ch ctk cS F9 N9 cl cL cP; have cP1 := PB.out cP; clear cP cS; subst cP1))); all_goals ((try k_sweep); (try dsimp only); (try k_fold))))))) | fail) | ((with_reducible show wpAny _ _ (pyIter (Value.ref _)) _ _ _); k_dflt (((refine range_plain _ [] (fun i => ∀ j : Nat, j < i → isHere cds bs folds ps (place + j) = false) rfl (by assumption) (small_one (by omega) (by omega) (by omega) (by omega)) rfl (by assumption) (by assumption) (fun _ h => absurd h (Nat.not_lt_zero _)) (fun i' t' u' h' tk' own' hi' hP' hoff' F' N' => ?_) (fun u' h' tk' hP' F' N' => ?_) <;> (try simp only [List.nil_append, List.cons_append] at N') <;> (try k_fold))))) | walk1 | (dsimp only; walk1) | (leave1; try dsimp only) | (dsimp only) | fail "no step")
  · ((refine hret _ _ _ (Fr.keep (by k_asm)) ?_))
    rename News _ _ _ _ => N'; rename AllLt _ _ => l1
    have e : searchF cds bs folds ps place bound = some (place + i', place + i' + ps.length) := by
      unfold searchF; rw [min_ite, findUp_some hi' hP' (by assumption)]; rfl
    rw [e]
    exact PF.mk (fun _ _ e => e) N' (by k_mem) (by k_mem) (Nat.ne_of_lt l1.1)
  · rename_i hit hj
    rcases Nat.lt_succ_iff_lt_or_eq.mp hj with h1 | rfl
    · exact hP' _ h1
    · assumption
  · ((refine hret _ _ _ (Fr.keep (by k_asm)) ?_))
    have e : searchF cds bs folds ps place bound = none := by
      unfold searchF; rw [min_ite, findUp_none hP']; rfl
    rw [e]; rfl

theorem search_backward_c (w : World) (x l : Addr) (cds ps : List Int) (bs place bound : Int) (t u : Tok) (folds : Bool) :
    CtP Mine.kx.heap_1 w 651 (fun h => ViewIn h x cds bs ∧ IntsIn h l ps ∧ ps.length ≤ 1000 ∧ -1000000 < place ∧ place < 1000000 ∧ -1000000 < bound ∧ bound < 1000000) 4 60 [.ref x, .int place t, .ref l, .int bound u, .bool folds] (PF (searchB cds bs folds ps place bound)) := by
  ((first | (k_dflt (refine' CtP.mkP ?qk6 ?qk7 ?qk9 ?qkB ?qkz ?qc2 ?qc3 ?qc4 ?qc5 ?_; (((((case qk6 => k_is); (case qk7 => k_is); (case qk9 => rfl); (case qc2 => exact rfl); (case qc3 => exact rfl); (case qc4 => exact rfl))); (case qc5 => decide +kernel); (case qkB => exact locs rfl); (case qkz => dsimp only [List.map, List.zip, List.zipWith, List.reverse, List.reverseAux]; try exact rfl); k_whole))); intro p loose mean mg mb dp un gd env outer base sh sg sd so Q E hdp hu hp hret L₁ h₁ tk₁ mm F₁ N₁ B₁ X₁ T₁ A₁ qk ek gk; have bo := BnOn.mk; have bd : Bnd mm := Bnd.mk) | (k_dflt (refine' CtP.mkC ?qk6 ?qk7 ?qk9 ?qkB ?qkD ?qc2 ?qc3 ?qc4 ?_; (((((case qk6 => k_is); (case qk7 => k_is); (case qk9 => rfl); (case qc2 => exact rfl); (case qc3 => exact rfl); (case qc4 => exact rfl))); (case qkB => exact rfl); (case qkD => decide +kernel); k_whole))); intro p loose mean mg mb dp un gd env outer base sh sg sd so Q E hdp hu hp hret L₁ h₁ tk₁ cells₁ mm F₁ N₁ Y₁ B₁ X₁ T₁ A₁ qk ek gk; have bo := BnOn.mk; have bd : Bnd mm := Bnd.mk; k_cells Y₁; (try (fail "bn"; rename News _ _ _ _ => N₁)))))
  have hv : ViewIn sh x cds bs := hp.1
  refine ViewIn.elim (id hv) fun dx l' vs n h1 h2 t1 t2 tb hx hdx hl hi hlen hb => ?_
  have hq : IntsIn sh l ps := hp.2.1
  obtain ⟨ws, hw, hwi⟩ := id hq
  have hps := hp.2.2
  repeat' ((fail_if_success (with_reducible show Q _ _)); first | fail "unf" | (k_end; wrow_close) | ((with_reducible show InvEndN _ _ _ _ _ _ _); first | ((k_here; k_dflt (refine endA ?_ ?qsame; (case qsame => ((intro z h1 h2; (try dsimp +zetaDelta only); (simp only [List.contains_cons, List.contains_nil, Bool.or_false, Bool.or_eq_false_iff, beq_eq_false_iff_ne, ne_eq] at h1 h2); (simp [h1, h2]; done))))))) | fail) | ((with_reducible show wpAny _ _ (call (Value.ref _) _) _ _ _); first | ((k_here; k_dflt ((((fail "fq"; refine' CtP.use ?qzC ?qzB ?qzF ?qzX ?qzN ?qzT ?qzK1 ?qzK ?qzp ?qzd ?qzu ?_; (case qzC => (first | (first | (exact begin_c w x cds bs) | (exact is_here_c w x l cds ps bs _ _ folds)) | (first | (exact end_c w x cds bs) | (exact is_here_c w x l cds ps bs _ _ folds))))))); (case qzB => k_asm); (case qzF => k_asm); (case qzX => k_asm); (case qzN => k_asm); (case qzT => k_asm); (case qzK1 => first | exact rfl | assumption); (case qzK => first | exact rfl | assumption); (case qzp => first | trivial | (first | (exact ⟨ViewIn.keeps (Fr.keep (by k_asm)) (by assumption), IntsIn.keeps (Fr.keep (by k_asm)) (by assumption)⟩) | (exact ViewIn.keeps (Fr.keep (by k_asm)) (by assumption)))); (case qzd => ktr_room); (case qzu => ktr_units); (focus (((first | (intro cv ch ctk cS F9 N9 cl cL cP; have cP1 := PI.out cP; clear cP cS; obtain ⟨ct9, cV⟩ := cP1; subst cV) | (intro cv ch ctk cS F9 N9 cl cL cP; have cP1 := PB.out cP; clear cP cS; subst cP1))); all_goals ((try k_sweep); (try dsimp only); (try k_fold))))))) | fail) | ((with_reducible show wpAny _ _ (pyIter (Value.ref _)) _ _ _); k_dflt ((first | ((refine range_down _ [] (fun i => ∀ j : Nat, j < i → isHere cds bs folds ps (place - ps.length - j) = false) rfl (by assumption) (small_down (by omega) (by omega) (by omega) (by omega)) rfl (by assumption) (by assumption) (fun _ h => absurd h (Nat.not_lt_zero _)) (fun i' t' u' h' tk' own' hi' hP' hoff' F' N' => ?_) (fun u' h' tk' hP' F' N' => ?_) <;> (try simp only [List.nil_append, List.cons_append] at N') <;> (try k_fold))) | ((refine range_plain _ [] (fun i => ∀ j : Nat, j < i → isHere cds bs folds ps (place + j) = false) rfl (by assumption) (small_one (by omega) (by omega) (by omega) (by omega)) rfl (by assumption) (by assumption) (fun _ h => absurd h (Nat.not_lt_zero _)) (fun i' t' u' h' tk' own' hi' hP' hoff' F' N' => ?_) (fun u' h' tk' hP' F' N' => ?_) <;> (try simp only [List.nil_append, List.cons_append] at N') <;> (try k_fold)))))) | walk1 | (dsimp only; walk1) | (leave1; try dsimp only) | (dsimp only) | fail "no step")
  · ((refine hret _ _ _ (Fr.keep (by k_asm)) ?_))
    rename News _ _ _ _ => N'; rename AllLt _ _ => l1
    have e : searchB cds bs folds ps place bound = some (place - ps.length - i', place - ps.length - i' + ps.length) := by
      unfold searchB; rw [max_ite, findDown_some hi' hP' (by assumption)]; rfl
    rw [e]
    exact PF.mk (fun _ _ e => e) N' (by k_mem) (by k_mem) (Nat.ne_of_lt l1.1)
  · rename_i hit hj
    rcases Nat.lt_succ_iff_lt_or_eq.mp hj with h1 | rfl
    · exact hP' _ h1
    · assumption
  · ((refine hret _ _ _ (Fr.keep (by k_asm)) ?_))
    have e : searchB cds bs folds ps place bound = none := by
      unfold searchB; rw [max_ite, findDown_none hP']; rfl
    rw [e]; rfl
end
section
theorem again_c (w : World) (f : Addr) (SP : Heap → Prop) (mono : ∀ h h', h.StaysIn h' → SP h → SP h') (hfn : ∀ h, SP h → FnAt f h) (sf : Int → Option (Int × Int)) (lo hi : Int) (dd uu : Nat)
    (hC : ∀ (p : Int) (t : Tok), lo ≤ p → p ≤ hi → CtP Mine.kx.heap_1 w f SP dd uu [.int p t] (PF (sf p))) (hsf : ∀ p q, lo ≤ p → p ≤ hi → sf p = some q → (lo ≤ q.1 ∧ q.1 ≤ hi) ∧ (lo ≤ q.2 ∧ q.2 ≤ hi))
    (place count : Int) (t u : Tok) (hpl : lo ≤ place ∧ place ≤ hi) (hc : -10 ≤ count ∧ count ≤ 10) : CtP Mine.kx.heap_1 w 665 SP (dd + 3) (uu + 100) [.ref f, .int place t, .int count u] (PF (often sf (fun q => if 0 < count then q.2 else q.1) count.natAbs place none)) := by
  ((first | (k_dflt (refine' CtP.mkP ?qk6 ?qk7 ?qk9 ?qkB ?qkz ?qc2 ?qc3 ?qc4 ?qc5 ?_; (((((case qk6 => k_is); (case qk7 => k_is); (case qk9 => rfl); (case qc2 => exact rfl); (case qc3 => exact rfl); (case qc4 => exact rfl))); (case qc5 => decide +kernel); (case qkB => exact locs rfl); (case qkz => dsimp only [List.map, List.zip, List.zipWith, List.reverse, List.reverseAux]; try exact rfl); k_whole))); intro p loose mean mg mb dp un gd env outer base sh sg sd so Q E hdp hu hp hret L₁ h₁ tk₁ mm F₁ N₁ B₁ X₁ T₁ A₁ qk ek gk; have bo := BnOn.mk; have bd : Bnd mm := Bnd.mk) | (k_dflt (refine' CtP.mkC ?qk6 ?qk7 ?qk9 ?qkB ?qkD ?qc2 ?qc3 ?qc4 ?_; (((((case qk6 => k_is); (case qk7 => k_is); (case qk9 => rfl); (case qc2 => exact rfl); (case qc3 => exact rfl); (case qc4 => exact rfl))); (case qkB => exact rfl); (case qkD => decide +kernel); k_whole))); intro p loose mean mg mb dp un gd env outer base sh sg sd so Q E hdp hu hp hret L₁ h₁ tk₁ cells₁ mm F₁ N₁ Y₁ B₁ X₁ T₁ A₁ qk ek gk; have bo := BnOn.mk; have bd : Bnd mm := Bnd.mk; k_cells Y₁; (try (fail "bn"; rename News _ _ _ _ => N₁)))))
  repeat' ((fail_if_success (with_reducible show Q _ _)); first | fail "unf" | (k_end; wrow_close) | ((with_reducible show _ ∧ _); first | (((with_reducible show FnAt _ _ ∧ _); refine ⟨hfn _ (mono _ _ (Fr.keep (by k_asm)) hp), ?_⟩; try dsimp only [List.nil_append, List.cons_append])) | fail) | ((with_reducible show wpAny _ _ (callWith _ _ _ _ _) _ _ _); first | ((k_here; k_dflt (refine' callWith_F (hfn _ (mono _ _ (Fr.keep (by k_asm)) hp)) ?_; k_whole))) | fail) | ((with_reducible show wpAny _ _ (call (Value.ref _) _) _ _ _); first | ((k_here; k_dflt ((((fail "fq"; refine' CtP.use ?qzC ?qzB ?qzF ?qzX ?qzN ?qzT ?qzK1 ?qzK ?qzp ?qzd ?qzu ?_; (case qzC => ((exact hC _ _ (by omega) (by omega))))))); (case qzB => k_asm); (case qzF => k_asm); (case qzX => k_asm); (case qzN => k_asm); (case qzT => k_asm); (case qzK1 => first | exact rfl | assumption); (case qzK => first | exact rfl | assumption); (case qzp => first | trivial | (first | (exact mono _ _ (Fr.keep (by k_asm)) hp) | (exact ViewIn.keeps (Fr.keep (by k_asm)) (by assumption)))); (case qzd => ktr_room); (case qzu => ktr_units); (focus (((first | (((intro cv ch ctk cS F9 N9 cl cL cP; have cP1 := PF.onto (by k_asm) (by k_asm) N9 cP; clear cP cS cl cL; (rcases cP1 with ⟨e9, cV⟩ | ⟨a9, b9, l9, t9, ta9, tb9, n19, n29, e9, cV, N8, ne9, nn1, nn2⟩); rotate_left; clear N9; rotate_right; all_goals subst cV))) | (first | (intro cv ch ctk cS F9 N9 cl cL cP; have cP1 := PI.out cP; clear cP cS; obtain ⟨ct9, cV⟩ := cP1; subst cV) | (intro cv ch ctk cS F9 N9 cl cL cP; have cP1 := PB.out cP; clear cP cS; subst cP1)))); all_goals ((try k_sweep); (try dsimp only); (try k_fold))))))) | fail) | ((with_reducible show wpAny _ _ (pyIter (Value.ref _)) _ _ _); k_dflt ((((try simp only [abs_ite] at *); refine' range_J2 count.natAbs (Str.ofString "place") (Str.ofString "found") (OftP sf (fun q => if 0 < count then q.2 else q.1) count.natAbs place (fun p => lo ≤ p ∧ p ≤ hi)) rfl (by assumption) ?qhs ?qhn (by assumption) (by assumption) rfl rfl (OftP.zero hpl) (fun i' t' v1' v2' ex' h' tk' I' oI' hi' hP' hoff' F' N' => ?_) (fun u' v1' v2' ex' h' tk' hP' F' N' => ?_); (case qhs => (refine small_one ?_ ?_ ?_ ?_ <;> omega)); (case qhn => omega); (rotate_left; (try k_fold); rotate_right); (obtain ⟨p', tp', r', rfl, ⟨hlo', hhi'⟩, ho', hr'⟩ := hP'); (replace N' := News.mono' N'); (replace hoff' := allNe_of fun q hq => hoff' q (List.mem_append_right _ hq)); clear hr'; (try k_fold))))) | walk1 | (dsimp only; walk1) | (leave1; try dsimp only) | (dsimp only) | fail "no step")
  all_goals (try exact hfn _ (mono _ _ (Fr.keep (by k_asm)) hp))
  all_goals (try (((refine hret _ _ _ (Fr.keep (by k_asm)) ?_)); first | exact OftP.done hP' (fun _ _ e => e) N' | (rw [ho', often_none hi' e9]; rfl)))
  all_goals
    have hq := hsf _ _ hlo' hhi' e9
    dsimp only at hq
    refine j2_end [(l9, _), (t9, _)] (by k_asm) (by k_asm) (by k_mem) (by lcg_sub) (by k_all) rfl rfl (by ((intro z h1 h2; (try dsimp +zetaDelta only); (simp only [List.contains_cons, List.contains_nil, Bool.or_false, Bool.or_eq_false_iff, beq_eq_false_iff_ne, ne_eq] at h1 h2); (simp [h1, h2]; done)))) ⟨_, _, some (a9, b9), rfl, by dsimp only; omega, ?_, l9, t9, _, _, _, _, rfl, by k_mem, by k_mem, ne9⟩
    rw [ho', often_some hi' e9]
    dsimp only
    first | rw [if_pos (by omega)] | rw [if_neg (by omega)]
end
section
-- the places of a row that lie within
noncomputable def within (size lo hi : Int) (ss : List Int) : List Int := ss.filter fun a => if lo ≤ a then if a + size ≤ hi then true else false else false
noncomputable def lawAhead (ss : List Int) (size place bound : Int) : Option (Int × Int) := (within size place bound ss).head?.map fun a => (a, a + size)
noncomputable def lawBack (ss : List Int) (size place bound : Int) : Option (Int × Int) := (within size bound place ss).getLast?.map fun a => (a, a + size)
theorem law_ahead_c (w : World) (l : Addr) (ss : List Int) (size place bound : Int) (t u z : Tok) :
    CtP Mine.kx.heap_1 w 816 (fun h => IntsIn h l ss ∧ ss.length ≤ 1000) 4 200 [.ref l, .int size z, .int place t, .int bound u] (PF (lawAhead ss size place bound)) := by
  ((first | (k_dflt (refine' CtP.mkP ?qk6 ?qk7 ?qk9 ?qkB ?qkz ?qc2 ?qc3 ?qc4 ?qc5 ?_; (((((case qk6 => k_is); (case qk7 => k_is); (case qk9 => rfl); (case qc2 => exact rfl); (case qc3 => exact rfl); (case qc4 => exact rfl))); (case qc5 => decide +kernel); (case qkB => exact locs rfl); (case qkz => dsimp only [List.map, List.zip, List.zipWith, List.reverse, List.reverseAux]; try exact rfl); k_whole))); intro p loose mean mg mb dp un gd env outer base sh sg sd so Q E hdp hu hp hret L₁ h₁ tk₁ mm F₁ N₁ B₁ X₁ T₁ A₁ qk ek gk; have bo := BnOn.mk; have bd : Bnd mm := Bnd.mk) | (k_dflt (refine' CtP.mkC ?qk6 ?qk7 ?qk9 ?qkB ?qkD ?qc2 ?qc3 ?qc4 ?_; (((((case qk6 => k_is); (case qk7 => k_is); (case qk9 => rfl); (case qc2 => exact rfl); (case qc3 => exact rfl); (case qc4 => exact rfl))); (case qkB => exact rfl); (case qkD => decide +kernel); k_whole))); intro p loose mean mg mb dp un gd env outer base sh sg sd so Q E hdp hu hp hret L₁ h₁ tk₁ cells₁ mm F₁ N₁ Y₁ B₁ X₁ T₁ A₁ qk ek gk; have bo := BnOn.mk; have bd : Bnd mm := Bnd.mk; k_cells Y₁; (try (fail "bn"; rename News _ _ _ _ => N₁)))))
  have hq : IntsIn sh l ss := hp.1
  obtain ⟨ws, hw, hwi⟩ := id hq
  have hps := hp.2
  repeat' ((fail_if_success (with_reducible show Q _ _)); first | fail "unf" | (k_end; wrow_close) | ((with_reducible show wpAny _ _ (compareOp _ (Value.ref _) _) _ _ _); first | ((k_here; k_dflt (refine neIntsA ?_))) | fail) | ((with_reducible show SeqLeaf _); first | ((k_here; (with_reducible show SeqLeaf (_ = _ ∧ Keeps _ _)); (first | rw [if_pos (by assumption)] | rw [if_neg (by assumption)]); (rename InElt _ _ => kE'); (refine SeqLeaf.intro ?_); k_dflt (with_unfolding_all exact ⟨rfl, _, _, rfl, kE'⟩))) | fail) | ((with_reducible show wpAny _ _ (call (Value.ref _) _) _ _ _); first | ((k_here; k_dflt ((fail "mine useP"); (case qzB => k_asm); (case qzF => k_asm); (case qzX => k_asm); (case qzN => k_asm); (case qzT => k_asm); (case qzK1 => first | exact rfl | assumption); (case qzK => first | exact rfl | assumption); (case qzp => first | trivial | (exact ViewIn.keeps (Fr.keep (by k_asm)) (by assumption))); (case qzd => ktr_room); (case qzu => ktr_units); (focus (((first | (intro cv ch ctk cS F9 N9 cl cL cP; have cP1 := PI.out cP; clear cP cS; obtain ⟨ct9, cV⟩ := cP1; subst cV) | (intro cv ch ctk cS F9 N9 cl cL cP; have cP1 := PB.out cP; clear cP cS; subst cP1))); all_goals ((try k_sweep); (try dsimp only); (try k_fold))))))) | fail) | walk1 | (dsimp only; walk1) | (leave1; try dsimp only) | (dsimp only) | fail "no step")
  all_goals (try k_data)
  · ((refine hret _ _ _ (Fr.keep (by k_asm)) ?_))
    rename_i hd
    have e : within size place bound ss = [] := by
      have := of_decide_eq_true hd
      rwa [List.map_id'] at this
    unfold lawAhead; rw [e]; rfl
  · ((refine hret _ _ _ (Fr.keep (by k_asm)) ?_))
    have hd := ‹decide (_ = []) = false›
    rename News _ _ _ _ => N'; rename AllLt _ _ => l1
    dsimp +zetaDelta only at N'
    unfold lawAhead within
    revert hd N'; generalize List.filter _ ss = fl; intro N' hd
    cases fl with
    | nil => simp at hd
    | cons b r => exact PF.mk (a := b) (b := b + size) (fun _ _ e => e) N' (by k_mem) (List.Mem.tail _ (List.Mem.head _)) (Nat.ne_of_lt l1.1)
theorem neg1_of {xs : List Int} (h : decide (xs = []) = false) : -(xs.length : Int) ≤ -1 := by
  cases xs with
  | nil => simp at h
  | cons a r => simp only [List.length_cons]; omega
theorem getD_end {xs : List Int} (h : xs ≠ []) : xs.getD ((-1 : Int) + xs.length).toNat 0 = xs.getLast h := by
  have hl : 0 < xs.length := List.length_pos_iff.mpr h
  have e : ((-1 : Int) + xs.length).toNat = xs.length - 1 := by omega
  rw [e, List.getD_eq_getElem?_getD, List.getLast_eq_getElem, List.getElem?_eq_getElem (by omega)]; rfl
theorem law_back_c (w : World) (l : Addr) (ss : List Int) (size place bound : Int) (t u z : Tok) :
    CtP Mine.kx.heap_1 w 821 (fun h => IntsIn h l ss ∧ ss.length ≤ 1000) 4 200 [.ref l, .int size z, .int place t, .int bound u] (PF (lawBack ss size place bound)) := by
  ((first | (k_dflt (refine' CtP.mkP ?qk6 ?qk7 ?qk9 ?qkB ?qkz ?qc2 ?qc3 ?qc4 ?qc5 ?_; (((((case qk6 => k_is); (case qk7 => k_is); (case qk9 => rfl); (case qc2 => exact rfl); (case qc3 => exact rfl); (case qc4 => exact rfl))); (case qc5 => decide +kernel); (case qkB => exact locs rfl); (case qkz => dsimp only [List.map, List.zip, List.zipWith, List.reverse, List.reverseAux]; try exact rfl); k_whole))); intro p loose mean mg mb dp un gd env outer base sh sg sd so Q E hdp hu hp hret L₁ h₁ tk₁ mm F₁ N₁ B₁ X₁ T₁ A₁ qk ek gk; have bo := BnOn.mk; have bd : Bnd mm := Bnd.mk) | (k_dflt (refine' CtP.mkC ?qk6 ?qk7 ?qk9 ?qkB ?qkD ?qc2 ?qc3 ?qc4 ?_; (((((case qk6 => k_is); (case qk7 => k_is); (case qk9 => rfl); (case qc2 => exact rfl); (case qc3 => exact rfl); (case qc4 => exact rfl))); (case qkB => exact rfl); (case qkD => decide +kernel); k_whole))); intro p loose mean mg mb dp un gd env outer base sh sg sd so Q E hdp hu hp hret L₁ h₁ tk₁ cells₁ mm F₁ N₁ Y₁ B₁ X₁ T₁ A₁ qk ek gk; have bo := BnOn.mk; have bd : Bnd mm := Bnd.mk; k_cells Y₁; (try (fail "bn"; rename News _ _ _ _ => N₁)))))
  have hq : IntsIn sh l ss := hp.1
  obtain ⟨ws, hw, hwi⟩ := id hq
  have hps := hp.2
  repeat' ((fail_if_success (with_reducible show Q _ _)); first | fail "unf" | (k_end; wrow_close) | ((with_reducible show wpAny _ _ (subscriptTail _ _ _ _) _ _ _); first | ((k_here; (with_reducible show wpAny _ _ (subscriptTail _ _ (Value.ref _) (Value.int _ _)) _ _ _); (k_dflt (with_unfolding_all refine' item_list_ints_neg ?qk1 ?qk2 ?qk3 ?qk4 ?qk5 ?_; (case qk1 => is_list); (case qk2 => l_intsC); (case qk3 => decide); (case qk4 => exact neg1_of (by assumption)); (case qk5 => decide); k_whole)); intro _)) | fail) | ((with_reducible show wpAny _ _ (compareOp _ (Value.ref _) _) _ _ _); first | ((k_here; k_dflt (refine neIntsA ?_))) | fail) | ((with_reducible show SeqLeaf _); first | ((k_here; (with_reducible show SeqLeaf (_ = _ ∧ Keeps _ _)); (first | rw [if_pos (by assumption)] | rw [if_neg (by assumption)]); (rename InElt _ _ => kE'); (refine SeqLeaf.intro ?_); k_dflt (with_unfolding_all exact ⟨rfl, _, _, rfl, kE'⟩))) | fail) | ((with_reducible show wpAny _ _ (call (Value.ref _) _) _ _ _); first | ((k_here; k_dflt ((fail "mine useP"); (case qzB => k_asm); (case qzF => k_asm); (case qzX => k_asm); (case qzN => k_asm); (case qzT => k_asm); (case qzK1 => first | exact rfl | assumption); (case qzK => first | exact rfl | assumption); (case qzp => first | trivial | (exact ViewIn.keeps (Fr.keep (by k_asm)) (by assumption))); (case qzd => ktr_room); (case qzu => ktr_units); (focus (((first | (intro cv ch ctk cS F9 N9 cl cL cP; have cP1 := PI.out cP; clear cP cS; obtain ⟨ct9, cV⟩ := cP1; subst cV) | (intro cv ch ctk cS F9 N9 cl cL cP; have cP1 := PB.out cP; clear cP cS; subst cP1))); all_goals ((try k_sweep); (try dsimp only); (try k_fold))))))) | fail) | walk1 | (dsimp only; walk1) | (leave1; try dsimp only) | (dsimp only) | fail "no step")
  all_goals (try k_data)
  · ((refine hret _ _ _ (Fr.keep (by k_asm)) ?_))
    rename_i hd
    have e : within size bound place ss = [] := by
      have := of_decide_eq_true hd
      rwa [List.map_id'] at this
    unfold lawBack; rw [e]; rfl
  · ((refine hret _ _ _ (Fr.keep (by k_asm)) ?_))
    have hd := ‹decide (_ = []) = false›
    rename News _ _ _ _ => N'; rename AllLt _ _ => l1
    dsimp +zetaDelta only at N'
    unfold lawBack within
    revert hd N'; generalize List.filter _ ss = fl; intro N' hd
    simp only [List.map_id'] at N' hd
    have hfl : fl ≠ [] := of_decide_eq_false hd
    rw [getD_end hfl] at N'
    rw [List.getLast?_eq_some_getLast hfl]
    exact PF.mk (a := fl.getLast hfl) (b := fl.getLast hfl + size) (fun _ _ e => e) N' (by k_mem) (List.Mem.tail _ (List.Mem.head _)) (Nat.ne_of_lt l1.1)
end
section
noncomputable def lawStep (ss : List Int) (size bound count : Int) (p : Int) : Option (Int × Int) := if 0 < count then lawAhead ss size p bound else lawBack ss size p bound
theorem law_often_c (w : World) (l : Addr) (ss : List Int) (size place bound count : Int) (t u z c : Tok) (hc : -10 ≤ count ∧ count ≤ 10) :
    CtP Mine.kx.heap_1 w 828 (fun h => IntsIn h l ss ∧ ss.length ≤ 1000) 6 300 [.ref l, .int size z, .int place t, .int bound u, .int count c] (PF (often (lawStep ss size bound count) (fun q => if 0 < count then q.2 else q.1) count.natAbs place none)) := by
  ((first | (k_dflt (refine' CtP.mkP ?qk6 ?qk7 ?qk9 ?qkB ?qkz ?qc2 ?qc3 ?qc4 ?qc5 ?_; (((((case qk6 => k_is); (case qk7 => k_is); (case qk9 => rfl); (case qc2 => exact rfl); (case qc3 => exact rfl); (case qc4 => exact rfl))); (case qc5 => decide +kernel); (case qkB => exact locs rfl); (case qkz => dsimp only [List.map, List.zip, List.zipWith, List.reverse, List.reverseAux]; try exact rfl); k_whole))); intro p loose mean mg mb dp un gd env outer base sh sg sd so Q E hdp hu hp hret L₁ h₁ tk₁ mm F₁ N₁ B₁ X₁ T₁ A₁ qk ek gk; have bo := BnOn.mk; have bd : Bnd mm := Bnd.mk) | (k_dflt (refine' CtP.mkC ?qk6 ?qk7 ?qk9 ?qkB ?qkD ?qc2 ?qc3 ?qc4 ?_; (((((case qk6 => k_is); (case qk7 => k_is); (case qk9 => rfl); (case qc2 => exact rfl); (case qc3 => exact rfl); (case qc4 => exact rfl))); (case qkB => exact rfl); (case qkD => decide +kernel); k_whole))); intro p loose mean mg mb dp un gd env outer base sh sg sd so Q E hdp hu hp hret L₁ h₁ tk₁ cells₁ mm F₁ N₁ Y₁ B₁ X₁ T₁ A₁ qk ek gk; have bo := BnOn.mk; have bd : Bnd mm := Bnd.mk; k_cells Y₁; (try (fail "bn"; rename News _ _ _ _ => N₁)))))
  repeat' ((fail_if_success (with_reducible show Q _ _)); first | fail "unf" | (k_end; wrow_close) | ((with_reducible show wpAny _ _ (call (Value.ref _) _) _ _ _); first | ((k_here; k_dflt ((((fail "fq"; refine' CtP.use ?qzC ?qzB ?qzF ?qzX ?qzN ?qzT ?qzK1 ?qzK ?qzp ?qzd ?qzu ?_; (case qzC => (first | (exact law_ahead_c w l ss size _ bound _ _ _) | (exact law_back_c w l ss size _ bound _ _ _)))))); (case qzB => k_asm); (case qzF => k_asm); (case qzX => k_asm); (case qzN => k_asm); (case qzT => k_asm); (case qzK1 => first | exact rfl | assumption); (case qzK => first | exact rfl | assumption); (case qzp => first | trivial | (first | (exact ⟨IntsIn.keeps (Fr.keep (by k_asm)) hp.1, hp.2⟩) | (exact ViewIn.keeps (Fr.keep (by k_asm)) (by assumption)))); (case qzd => ktr_room); (case qzu => ktr_units); (focus (((first | (((intro cv ch ctk cS F9 N9 cl cL cP; have cP1 := PF.onto (by k_asm) (by k_asm) N9 cP; clear cP cS cl cL; (rcases cP1 with ⟨e9, cV⟩ | ⟨a9, b9, l9, t9, ta9, tb9, n19, n29, e9, cV, N8, ne9, nn1, nn2⟩); rotate_left; clear N9; rotate_right; all_goals subst cV))) | (first | (intro cv ch ctk cS F9 N9 cl cL cP; have cP1 := PI.out cP; clear cP cS; obtain ⟨ct9, cV⟩ := cP1; subst cV) | (intro cv ch ctk cS F9 N9 cl cL cP; have cP1 := PB.out cP; clear cP cS; subst cP1)))); all_goals ((try k_sweep); (try dsimp only); (try k_fold))))))) | fail) | ((with_reducible show wpAny _ _ (pyIter (Value.ref _)) _ _ _); k_dflt ((((try simp only [abs_ite] at *); refine' range_J2 count.natAbs (Str.ofString "place") (Str.ofString "found") (OftP (lawStep ss size bound count) (fun q => if 0 < count then q.2 else q.1) count.natAbs place (fun _ => True)) rfl (by assumption) ?qhs ?qhn (by assumption) (by assumption) rfl rfl (OftP.zero trivial) (fun i' t' v1' v2' ex' h' tk' I' oI' hi' hP' hoff' F' N' => ?_) (fun u' v1' v2' ex' h' tk' hP' F' N' => ?_); (case qhs => (refine small_one ?_ ?_ ?_ ?_ <;> omega)); (case qhn => omega); (rotate_left; (try k_fold); rotate_right); (obtain ⟨p', tp', r', rfl, hok', ho', hr'⟩ := hP'); (replace N' := News.mono' N'); (replace hoff' := allNe_of fun q hq => hoff' q (List.mem_append_right _ hq)); clear hr'; (try k_fold))))) | walk1 | (dsimp only; walk1) | (leave1; try dsimp only) | (dsimp only) | fail "no step")
  all_goals (have e8 : lawStep ss size bound count = lawStep ss size bound count := rfl)
  all_goals (try (((refine hret _ _ _ (Fr.keep (by k_asm)) ?_)); first | exact OftP.done hP' (fun _ _ e => e) N' | (rw [ho', often_none hi' (by unfold lawStep; first | (rw [if_pos (by omega)]; exact e9) | (rw [if_neg (by omega)]; exact e9))]; rfl)))
  all_goals
    have e8 : lawStep ss size bound count p' = some (a9, b9) := by unfold lawStep; first | (rw [if_pos (by omega)]; exact e9) | (rw [if_neg (by omega)]; exact e9)
    refine j2_end [(l9, _), (t9, _)] (by k_asm) (by k_asm) (by k_mem) (by lcg_sub) (by k_all) rfl rfl (by ((intro z h1 h2; (try dsimp +zetaDelta only); (simp only [List.contains_cons, List.contains_nil, Bool.or_false, Bool.or_eq_false_iff, beq_eq_false_iff_ne, ne_eq] at h1 h2); (simp [h1, h2]; done)))) ⟨_, _, some (a9, b9), rfl, trivial, ?_, l9, t9, _, _, _, _, rfl, by k_mem, by k_mem, ne9⟩
    rw [ho', often_some hi' e8]
    dsimp only
    first | rw [if_pos (by omega)] | rw [if_neg (by omega)]
end
section
-- what a draw gives: an int below many; the deck's place is one more
noncomputable def PD (D l : Addr) (k many : Int) (_ h' : Heap) (v : Value) : Prop := ∃ (r : Int) (t t' : Tok) (n' : Nat), v = .int r t ∧ 0 ≤ r ∧ r < many ∧ h'.get? D = some (listOf #[.ref l, .int (k + 1) t'] n')
theorem draw_c (w : World) (D l : Addr) (cs : List Int) (k many : Int) (tk t : Tok) (n : Nat) (hk : 0 ≤ k ∧ k ≤ 100) (hm : 1 ≤ many ∧ many ≤ 20) :
    CtM Mine.kx.heap_1 w 806 (fun h => IntsIn h l cs ∧ cs.length ≤ 63) 2 100 [.ref D, .int many t] [(D, listOf #[.ref l, .int k tk] n)] (PD D l k many) := by
  ((first | (k_dflt (refine' CtM.mkP ?qk6 ?qk7 ?qk9 ?qkB ?qkz ?qc2 ?qc3 ?qc4 ?qc5 ?_; (((((case qk6 => k_is); (case qk7 => k_is); (case qk9 => rfl); (case qc2 => exact rfl); (case qc3 => exact rfl); (case qc4 => exact rfl))); (case qc5 => decide +kernel); (case qkB => exact locs rfl); (case qkz => dsimp only [List.map, List.zip, List.zipWith, List.reverse, List.reverseAux]; try exact rfl); k_whole))); intro p loose mean mg mb dp un gd env outer base sh sg sd so Q E hdp hu g₁ L₁ h₁ tk₁ mm nw F₁ N₁ B₁ X₁ T₁ G₁ lt₁ hp hret A₁ qk ek gk; have bo := BnOn.mk; have bd : Bnd mm := Bnd.mk; have bd : Bnd nw := Bnd.mk) | (k_dflt (refine' CtM.mkC ?qk6 ?qk7 ?qk9 ?qkB ?qkD ?qc2 ?qc3 ?qc4 ?_; (((((case qk6 => k_is); (case qk7 => k_is); (case qk9 => rfl); (case qc2 => exact rfl); (case qc3 => exact rfl); (case qc4 => exact rfl))); (case qkB => exact rfl); (case qkD => decide +kernel); k_whole))); intro p loose mean mg mb dp un gd env outer base sh sg sd so Q E hdp hu g₁ L₁ h₁ tk₁ cells₁ mm F₁ N₁ Y₁ B₁ X₁ T₁ G₁ lt₁ hp hret A₁ qk ek gk; have bo := BnOn.mk; have bd : Bnd mm := Bnd.mk; k_cells Y₁; (try simp only [List.cons_append, List.nil_append] at N₁); (try (fail "bn"; rename News _ _ _ _ => N₁)))))
  have hps := hp.2
  obtain ⟨ws, hw, hwi⟩ := hp.1
  repeat' ((fail_if_success (with_reducible show Q _ _)); first | fail "unf" | (k_end; wrow_close) | ((with_reducible show wpAny _ _ (call (Value.ref _) _) _ _ _); first | ((k_here; k_dflt ((fail "mine useP"); (case qzB => k_asm); (case qzF => k_asm); (case qzX => k_asm); (case qzN => k_asm); (case qzT => k_asm); (case qzK1 => first | exact rfl | assumption); (case qzK => first | exact rfl | assumption); (case qzp => first | trivial | (exact ViewIn.keeps (Fr.keep (by k_asm)) (by assumption))); (case qzd => ktr_room); (case qzu => ktr_units); (focus (((first | (intro cv ch ctk cS F9 N9 cl cL cP; have cP1 := PI.out cP; clear cP cS; obtain ⟨ct9, cV⟩ := cP1; subst cV) | (intro cv ch ctk cS F9 N9 cl cL cP; have cP1 := PB.out cP; clear cP cS; subst cP1))); all_goals ((try k_sweep); (try dsimp only); (try k_fold))))))) | fail) | walk1 | (dsimp only; walk1) | (leave1; try dsimp only) | (dsimp only) | fail "no step")
  all_goals (((refine hret _ _ _ _ (by k_asm) ?_)); exact ⟨_, _, _, _, rfl, Int.fmod_nonneg_of_pos _ (by omega), Int.fmod_lt_of_pos _ (by omega), News.get (by k_asm) (by k_mem)⟩)
end
section
theorem weakF {h₀ h : Heap} {L : Addr} {m : Str → Option Value} (as : List Addr) (F : Fr h₀ L h m) : Fr (hideAll h₀ as) L h m := ⟨F.ns, fun b o e => F.keep b o (of_hideAll _ e), by rw [hideAll_size]; exact F.above⟩
theorem weakN {h₀ h : Heap} {L : Addr} {news : List (Addr × Obj)} (as : List Addr) (N : News h₀ L h news) : News (hideAll h₀ as) L h news := fun q hq => ⟨(N q hq).1, (N q hq).2.1, by
  cases e : (hideAll h₀ as).get? q.1 with
  | none => rfl
  | some o => have := of_hideAll _ e; rw [(N q hq).2.2] at this; cases this⟩
theorem weakP {h₀ h : Heap} {L a : Addr} {o : Obj} {m : Str → Option Value} {news : List (Addr × Obj)} (as : List Addr) (F : Fr h₀ L h m) (e : h₀.get? a = some o) (ha : a ∈ as) (N : News (hideAll h₀ as) L h news) : News (hideAll h₀ as) L h ((a, o) :: news) := fun q hq => by
  rcases List.mem_cons.mp hq with rfl | hq
  · exact ⟨F.keep _ _ e, Nat.ne_of_lt (Nat.lt_of_lt_of_le (Heap.lt_size e) F.above), hideAll_none _ ha⟩
  · exact N q hq
theorem stays_weak {h₀ h' : Heap} {L : Addr} {m : Str → Option Value} {as : List Addr} (F : Fr (hideAll h₀ as) L h' m) (k : ∀ a ∈ as, ∀ o, h₀.get? a = some o → h'.get? a = some o) : h₀.StaysIn h' := fun b o e => by
  by_cases hb : b ∈ as
  · exact k b hb o e
  · exact F.keep b o (hideAll_get _ e hb)
theorem weak_fresh {h₀ h : Heap} {L x : Addr} {o : Obj} {as : List Addr} {news : List (Addr × Obj)} (N : News (hideAll h₀ as) L h news) (hm : (x, o) ∈ news) (hx : x ∉ as) : h₀.get? x = none := by
  cases e : h₀.get? x with
  | none => rfl
  | some o' => have := N.fresh hm; rw [hideAll_get _ e hx] at this; cases this
theorem law_moved0_c (w : World) (bb : Int) (t : Tok) : CtP Mine.kx.heap_1 w 833 NoPre 4 200 [.none, .int bb t] (PF none) := by
  ((first | (k_dflt (refine' CtP.mkP ?qk6 ?qk7 ?qk9 ?qkB ?qkz ?qc2 ?qc3 ?qc4 ?qc5 ?_; (((((case qk6 => k_is); (case qk7 => k_is); (case qk9 => rfl); (case qc2 => exact rfl); (case qc3 => exact rfl); (case qc4 => exact rfl))); (case qc5 => decide +kernel); (case qkB => exact locs rfl); (case qkz => dsimp only [List.map, List.zip, List.zipWith, List.reverse, List.reverseAux]; try exact rfl); k_whole))); intro p loose mean mg mb dp un gd env outer base sh sg sd so Q E hdp hu hp hret L₁ h₁ tk₁ mm F₁ N₁ B₁ X₁ T₁ A₁ qk ek gk; have bo := BnOn.mk; have bd : Bnd mm := Bnd.mk) | (k_dflt (refine' CtP.mkC ?qk6 ?qk7 ?qk9 ?qkB ?qkD ?qc2 ?qc3 ?qc4 ?_; (((((case qk6 => k_is); (case qk7 => k_is); (case qk9 => rfl); (case qc2 => exact rfl); (case qc3 => exact rfl); (case qc4 => exact rfl))); (case qkB => exact rfl); (case qkD => decide +kernel); k_whole))); intro p loose mean mg mb dp un gd env outer base sh sg sd so Q E hdp hu hp hret L₁ h₁ tk₁ cells₁ mm F₁ N₁ Y₁ B₁ X₁ T₁ A₁ qk ek gk; have bo := BnOn.mk; have bd : Bnd mm := Bnd.mk; k_cells Y₁; (try (fail "bn"; rename News _ _ _ _ => N₁)))))
  repeat' ((fail_if_success (with_reducible show Q _ _)); first | fail "unf" | (k_end; wrow_close) | ((with_reducible show wpAny _ _ (call (Value.ref _) _) _ _ _); first | ((k_here; k_dflt ((fail "mine useP"); (case qzB => k_asm); (case qzF => k_asm); (case qzX => k_asm); (case qzN => k_asm); (case qzT => k_asm); (case qzK1 => first | exact rfl | assumption); (case qzK => first | exact rfl | assumption); (case qzp => first | trivial | (exact ViewIn.keeps (Fr.keep (by k_asm)) (by assumption))); (case qzd => ktr_room); (case qzu => ktr_units); (focus (((first | (intro cv ch ctk cS F9 N9 cl cL cP; have cP1 := PI.out cP; clear cP cS; obtain ⟨ct9, cV⟩ := cP1; subst cV) | (intro cv ch ctk cS F9 N9 cl cL cP; have cP1 := PB.out cP; clear cP cS; subst cP1))); all_goals ((try k_sweep); (try dsimp only); (try k_fold))))))) | fail) | walk1 | (dsimp only; walk1) | (leave1; try dsimp only) | (dsimp only) | fail "no step")
  ((refine hret _ _ _ (Fr.keep (by k_asm)) ?_))
  exact rfl
theorem law_moved1_c (w : World) (l tt : Addr) (bb a b : Int) (t ta tb : Tok) (n1 n2 : Nat) (hne : tt ≠ l) : CtP Mine.kx.heap_1 w 833 (fun h => h.get? l = some (listOf #[.ref tt] n1) ∧ h.get? tt = some (tupOf #[.int a ta, .int b tb] n2)) 4 200 [.ref l, .int bb t] (PF (some (a + bb, b + bb))) := by
  ((first | (k_dflt (refine' CtP.mkP ?qk6 ?qk7 ?qk9 ?qkB ?qkz ?qc2 ?qc3 ?qc4 ?qc5 ?_; (((((case qk6 => k_is); (case qk7 => k_is); (case qk9 => rfl); (case qc2 => exact rfl); (case qc3 => exact rfl); (case qc4 => exact rfl))); (case qc5 => decide +kernel); (case qkB => exact locs rfl); (case qkz => dsimp only [List.map, List.zip, List.zipWith, List.reverse, List.reverseAux]; try exact rfl); k_whole))); intro p loose mean mg mb dp un gd env outer base sh sg sd so Q E hdp hu hp hret L₁ h₁ tk₁ mm F₁ N₁ B₁ X₁ T₁ A₁ qk ek gk; have bo := BnOn.mk; have bd : Bnd mm := Bnd.mk) | (k_dflt (refine' CtP.mkC ?qk6 ?qk7 ?qk9 ?qkB ?qkD ?qc2 ?qc3 ?qc4 ?_; (((((case qk6 => k_is); (case qk7 => k_is); (case qk9 => rfl); (case qc2 => exact rfl); (case qc3 => exact rfl); (case qc4 => exact rfl))); (case qkB => exact rfl); (case qkD => decide +kernel); k_whole))); intro p loose mean mg mb dp un gd env outer base sh sg sd so Q E hdp hu hp hret L₁ h₁ tk₁ cells₁ mm F₁ N₁ Y₁ B₁ X₁ T₁ A₁ qk ek gk; have bo := BnOn.mk; have bd : Bnd mm := Bnd.mk; k_cells Y₁; (try (fail "bn"; rename News _ _ _ _ => N₁)))))
  obtain ⟨hl, ht⟩ := hp
  have N₂ := weakP [l, tt] F₁ hl (by simp) (weakP [l, tt] F₁ ht (by simp) (weakN [l, tt] N₁))
  have F₂ := weakF [l, tt] F₁
  have lo : l < L₁ := Nat.lt_of_lt_of_le (Heap.lt_size hl) F₁.above
  have lo2 : tt < L₁ := Nat.lt_of_lt_of_le (Heap.lt_size ht) F₁.above
  clear F₁ N₁
  repeat' ((fail_if_success (with_reducible show Q _ _)); first | fail "unf" | (k_end; wrow_close) | ((with_reducible show wpAny _ _ (call (Value.ref _) _) _ _ _); first | ((k_here; k_dflt ((fail "mine useP"); (case qzB => k_asm); (case qzF => k_asm); (case qzX => k_asm); (case qzN => k_asm); (case qzT => k_asm); (case qzK1 => first | exact rfl | assumption); (case qzK => first | exact rfl | assumption); (case qzp => first | trivial | (exact ViewIn.keeps (Fr.keep (by k_asm)) (by assumption))); (case qzd => ktr_room); (case qzu => ktr_units); (focus (((first | (intro cv ch ctk cS F9 N9 cl cL cP; have cP1 := PI.out cP; clear cP cS; obtain ⟨ct9, cV⟩ := cP1; subst cV) | (intro cv ch ctk cS F9 N9 cl cL cP; have cP1 := PB.out cP; clear cP cS; subst cP1))); all_goals ((try k_sweep); (try dsimp only); (try k_fold))))))) | fail) | walk1 | (dsimp only; walk1) | (leave1; try dsimp only) | (dsimp only) | fail "no step")
  rename_i D2 h9 tk9 F9 N9 o9
  refine hret _ _ _ (stays_weak F9 fun x hx o e => ?_) ?_
  · rcases List.mem_cons.mp hx with rfl | hx
    · rw [hl] at e; cases e; exact N9.get (by k_mem)
    · obtain rfl := List.mem_singleton.mp hx
      rw [ht] at e; cases e; exact N9.get (by k_mem)
  · have fr : ∀ {x o}, (x, o) ∈ _ → x ≠ l → x ≠ tt → sh.get? x = none := fun {x o} hm h1 h2 => weak_fresh N9 hm (by simp [h1, h2])
    exact ⟨D2, _, _, _, _, _, rfl, N9.get (by k_mem), N9.get (List.Mem.tail _ (List.Mem.head _)), fr (List.Mem.tail _ (List.Mem.head _)) (by k_ne) (by k_ne), fr (List.Mem.head _) (by k_ne) (by k_ne), by k_ne⟩
-- a value bears such a find in a heap
noncomputable def PFat (h : Heap) (o : Option (Int × Int)) (v : Value) : Prop := match o with
  | none => v = .none
  | some p => ∃ (l t : Addr) (ta tb : Tok) (n1 n2 : Nat), v = .ref l ∧ h.get? l = some (listOf #[.ref t] n1) ∧ h.get? t = some (tupOf #[.int p.1 ta, .int p.2 tb] n2) ∧ t ≠ l
end
section
-- what a Regmachine holds that no run turns
structure MP where
  h : Nat → Int
  t : Nat → Tok
  hc : Nat → Int
  tc : Nat → Tok
  code : Addr
  dcode : Addr
  rows : Addr
  view : Addr
  D : Addr
  X : Addr
  table : Value
  folds : Bool
noncomputable abbrev MP.dict (P : MP) (taken lim : Int) (kept marks choices changes : Addr) (tt tl : Tok) : Obj :=
  dictOf [⟨P.h 0, .str (Str.ofString "code") (P.t 0), .ref P.code⟩, ⟨P.h 1, .str (Str.ofString "view") (P.t 1), .ref P.view⟩, ⟨P.h 2, .str (Str.ofString "table") (P.t 2), P.table⟩,
    ⟨P.h 3, .str (Str.ofString "point") (P.t 3), .int 0 (P.t 11)⟩, ⟨P.h 4, .str (Str.ofString "steps") (P.t 4), .int 400000 (P.t 12)⟩, ⟨P.h 5, .str (Str.ofString "taken") (P.t 5), .int taken tt⟩,
    ⟨P.h 6, .str (Str.ofString "limit") (P.t 6), .int lim tl⟩, ⟨P.h 7, .str (Str.ofString "kept") (P.t 7), .ref kept⟩, ⟨P.h 8, .str (Str.ofString "marks") (P.t 8), .ref marks⟩,
    ⟨P.h 9, .str (Str.ofString "choices") (P.t 9), .ref choices⟩, ⟨P.h 10, .str (Str.ofString "changes") (P.t 10), .ref changes⟩] 11
-- its code and the object itself stand
noncomputable def MP.at (P : MP) (h : Heap) : Prop := h.get? P.X = some (instObj 583 P.D) ∧ h.get? P.code = some (instObj 357 P.dcode) ∧
  h.get? P.dcode = some (dictOf [⟨P.hc 0, .str (Str.ofString "rows") (P.tc 0), .ref P.rows⟩, ⟨P.hc 1, .str (Str.ofString "groups") (P.tc 1), .int 0 (P.tc 4)⟩, ⟨P.hc 2, .str (Str.ofString "marks") (P.tc 2), .int 0 (P.tc 5)⟩, ⟨P.hc 3, .str (Str.ofString "folds") (P.tc 3), .bool P.folds⟩] 4)
theorem MP.at.keeps {P : MP} {h h' : Heap} (k : h.StaysIn h') (a : P.at h) : P.at h' := ⟨k _ _ a.1, k _ _ a.2.1, k _ _ a.2.2⟩
noncomputable def fo (folds : Bool) (c : Int) : Int := if folds = true then dc c else c
theorem is_taken_c (w : World) (P : MP) (taken lim : Int) (kept marks choices changes r : Addr) (tt tl t tr td : Tok) (c d : Int) (n : Nat) :
    CtP Mine.kx.heap_1 w 568 (fun h => P.at h ∧ h.get? P.D = some (P.dict taken lim kept marks choices changes tt tl) ∧ h.get? r = some (tupOf #[.str (Str.ofString "char") tr, .int c t] n)) 3 40 [.ref P.X, .ref r, .int d td] (PB (decide (c = fo P.folds d))) := by
  ((first | (k_dflt (refine' CtP.mkP ?qk6 ?qk7 ?qk9 ?qkB ?qkz ?qc2 ?qc3 ?qc4 ?qc5 ?_; (((((case qk6 => k_is); (case qk7 => k_is); (case qk9 => rfl); (case qc2 => exact rfl); (case qc3 => exact rfl); (case qc4 => exact rfl))); (case qc5 => decide +kernel); (case qkB => exact locs rfl); (case qkz => dsimp only [List.map, List.zip, List.zipWith, List.reverse, List.reverseAux]; try exact rfl); k_whole))); intro p loose mean mg mb dp un gd env outer base sh sg sd so Q E hdp hu hp hret L₁ h₁ tk₁ mm F₁ N₁ B₁ X₁ T₁ A₁ qk ek gk; have bo := BnOn.mk; have bd : Bnd mm := Bnd.mk) | (k_dflt (refine' CtP.mkC ?qk6 ?qk7 ?qk9 ?qkB ?qkD ?qc2 ?qc3 ?qc4 ?_; (((((case qk6 => k_is); (case qk7 => k_is); (case qk9 => rfl); (case qc2 => exact rfl); (case qc3 => exact rfl); (case qc4 => exact rfl))); (case qkB => exact rfl); (case qkD => decide +kernel); k_whole))); intro p loose mean mg mb dp un gd env outer base sh sg sd so Q E hdp hu hp hret L₁ h₁ tk₁ cells₁ mm F₁ N₁ Y₁ B₁ X₁ T₁ A₁ qk ek gk; have bo := BnOn.mk; have bd : Bnd mm := Bnd.mk; k_cells Y₁; (try (fail "bn"; rename News _ _ _ _ => N₁)))))
  obtain ⟨⟨hX, hC, hDC⟩, hD, hr⟩ := hp
  have hrt : IsTup sh r #[.str (Str.ofString "char") tr, .int c t] := ⟨_, hr, rfl, n, rfl⟩
  repeat' ((fail_if_success (with_reducible show Q _ _)); first | fail "unf" | (k_end; wrow_close) | ((with_reducible show wpAny _ _ (call (Value.ref _) _) _ _ _); first | ((k_here; k_dflt ((((fail "fq"; refine' CtP.use ?qzC ?qzB ?qzF ?qzX ?qzN ?qzT ?qzK1 ?qzK ?qzp ?qzd ?qzu ?_; (case qzC => ((exact fold_c _ _ _)))))); (case qzB => k_asm); (case qzF => k_asm); (case qzX => k_asm); (case qzN => k_asm); (case qzT => k_asm); (case qzK1 => first | exact rfl | assumption); (case qzK => first | exact rfl | assumption); (case qzp => first | trivial | (exact ViewIn.keeps (Fr.keep (by k_asm)) (by assumption))); (case qzd => ktr_room); (case qzu => ktr_units); (focus (((first | (intro cv ch ctk cS F9 N9 cl cL cP; have cP1 := PI.out cP; clear cP cS; obtain ⟨ct9, cV⟩ := cP1; subst cV) | (intro cv ch ctk cS F9 N9 cl cL cP; have cP1 := PB.out cP; clear cP cS; subst cP1))); all_goals ((try k_sweep); (try dsimp only); (try k_fold))))))) | fail) | walk1 | (dsimp only; walk1) | (leave1; try dsimp only) | (dsimp only) | fail "no step")
  all_goals (((refine hret _ _ _ (Fr.keep (by k_asm)) ?_)); refine PB.mk ?_; unfold fo; have hf := ‹P.folds = _›; simp only [hf, if_true, Bool.false_eq_true, if_false]; rfl)
-- an int or None
noncomputable def PO (o : Option Int) (_ _ : Heap) (v : Value) : Prop := match o with
  | none => v = .none
  | some x => ∃ t, v = .int x t
theorem PO.some {x y : Int} {t : Tok} {h h' : Heap} {o : Option Int} (e : o = .some y) (e2 : x = y) : PO o h h' (.int x t) := by subst e; exact ⟨t, by rw [e2]⟩
theorem PO.none {h h' : Heap} {o : Option Int} (e : o = .none) : PO o h h' .none := by subst e; rfl
noncomputable def askR (cds : List Int) (bs : Int) (folds : Bool) (c lim place : Int) : Option Int := if place < lim ∧ c = fo folds (codeAt cds bs place) then some (place + 1) else none
theorem asked_c (w : World) (P : MP) (cds : List Int) (bs lim : Int) (kept marks choices changes r : Addr) (tl tp : Tok) (c place : Int) :
    CtP Mine.kx.heap_1 w 561 (fun h => P.at h ∧ (∃ (taken : Int) (tt : Tok), h.get? P.D = some (P.dict taken lim kept marks choices changes tt tl)) ∧ (∃ (tr t : Tok) (n : Nat), h.get? r = some (tupOf #[.str (Str.ofString "char") tr, .int c t] n)) ∧ ViewIn h P.view cds bs) 5 80 [.ref P.X, .ref r, .int place tp]
      (PO (askR cds bs P.folds c lim place)) := by
  ((first | (k_dflt (refine' CtP.mkP ?qk6 ?qk7 ?qk9 ?qkB ?qkz ?qc2 ?qc3 ?qc4 ?qc5 ?_; (((((case qk6 => k_is); (case qk7 => k_is); (case qk9 => rfl); (case qc2 => exact rfl); (case qc3 => exact rfl); (case qc4 => exact rfl))); (case qc5 => decide +kernel); (case qkB => exact locs rfl); (case qkz => dsimp only [List.map, List.zip, List.zipWith, List.reverse, List.reverseAux]; try exact rfl); k_whole))); intro p loose mean mg mb dp un gd env outer base sh sg sd so Q E hdp hu hp hret L₁ h₁ tk₁ mm F₁ N₁ B₁ X₁ T₁ A₁ qk ek gk; have bo := BnOn.mk; have bd : Bnd mm := Bnd.mk) | (k_dflt (refine' CtP.mkC ?qk6 ?qk7 ?qk9 ?qkB ?qkD ?qc2 ?qc3 ?qc4 ?_; (((((case qk6 => k_is); (case qk7 => k_is); (case qk9 => rfl); (case qc2 => exact rfl); (case qc3 => exact rfl); (case qc4 => exact rfl))); (case qkB => exact rfl); (case qkD => decide +kernel); k_whole))); intro p loose mean mg mb dp un gd env outer base sh sg sd so Q E hdp hu hp hret L₁ h₁ tk₁ cells₁ mm F₁ N₁ Y₁ B₁ X₁ T₁ A₁ qk ek gk; have bo := BnOn.mk; have bd : Bnd mm := Bnd.mk; k_cells Y₁; (try (fail "bn"; rename News _ _ _ _ => N₁)))))
  obtain ⟨hP, ⟨taken, tt, hD⟩, ⟨tr, t, n, hr⟩, hV⟩ := hp
  obtain ⟨hX, hC, hDC⟩ := id hP
  refine ViewIn.elim (id hV) fun dv lv vsv nv g1 g2 s1 s2 sb hx hdx hl hi hlen hb => ?_
  have hrt : IsTup sh r #[.str (Str.ofString "char") tr, .int c t] := ⟨_, hr, rfl, n, rfl⟩
  repeat' ((fail_if_success (with_reducible show Q _ _)); first | fail "unf" | (k_end; wrow_close) | ((with_reducible show wpAny _ _ (call (Value.ref _) _) _ _ _); first | ((k_here; k_dflt ((((fail "fq"; refine' CtP.use ?qzC ?qzB ?qzF ?qzX ?qzN ?qzT ?qzK1 ?qzK ?qzp ?qzd ?qzu ?_; (case qzC => (first | (first | (exact code_at_c w P.view cds bs _ _) | (exact is_taken_c w P taken lim kept marks choices changes r tt tl t tr _ c _ n)) | ((exact fold_c _ _ _))))))); (case qzB => k_asm); (case qzF => k_asm); (case qzX => k_asm); (case qzN => k_asm); (case qzT => k_asm); (case qzK1 => first | exact rfl | assumption); (case qzK => first | exact rfl | assumption); (case qzp => first | trivial | (first | (first | exact ViewIn.keeps (Fr.keep (by k_asm)) (by assumption) | exact ⟨MP.at.keeps (Fr.keep (by k_asm)) hP, Fr.keep (by k_asm) _ _ hD, Fr.keep (by k_asm) _ _ hr⟩) | (exact ViewIn.keeps (Fr.keep (by k_asm)) (by assumption)))); (case qzd => ktr_room); (case qzu => ktr_units); (focus (((first | (intro cv ch ctk cS F9 N9 cl cL cP; have cP1 := PI.out cP; clear cP cS; obtain ⟨ct9, cV⟩ := cP1; subst cV) | (intro cv ch ctk cS F9 N9 cl cL cP; have cP1 := PB.out cP; clear cP cS; subst cP1))); all_goals ((try k_sweep); (try dsimp only); (try k_fold))))))) | fail) | walk1 | (dsimp only; walk1) | (leave1; try dsimp only) | (dsimp only) | fail "no step")
  all_goals (((refine hret _ _ _ (Fr.keep (by k_asm)) ?_)); first | (refine PO.some (y := place + 1) ?_ rfl; unfold askR; rw [if_pos (by constructor <;> simp_all)]) | (refine PO.none ?_; unfold askR; rw [if_neg (by simp_all <;> omega)]))
end
section
noncomputable def RowsAt (h : Heap) : List Int → List Value → Prop
  | [], vs => ∃ (td : Addr) (tk : Tok) (n : Nat), vs = [.ref td] ∧ h.get? td = some (tupOf #[.str (Str.ofString "done") tk] n)
  | c :: cs, vs => ∃ (t : Addr) (tr tc : Tok) (n : Nat) (rest : List Value), vs = .ref t :: rest ∧ h.get? t = some (tupOf #[.str (Str.ofString "char") tr, .int c tc] n) ∧ RowsAt h cs rest
theorem RowsAt.keeps {h h' : Heap} (k : h.StaysIn h') : ∀ {cs : List Int} {vs : List Value}, RowsAt h cs vs → RowsAt h' cs vs
  | [], _, ⟨td, tk, n, e, e2⟩ => ⟨td, tk, n, e, k _ _ e2⟩
  | _ :: _, _, ⟨t, tr, tc, n, rest, e, e2, r⟩ => ⟨t, tr, tc, n, rest, e, k _ _ e2, RowsAt.keeps k r⟩
noncomputable def RowsIn (h : Heap) (R : Addr) (cs : List Int) : Prop := ∃ (vs : List Value) (n : Nat), h.get? R = some (listOf vs.toArray n) ∧ RowsAt h cs vs
theorem RowsIn.keeps {h h' : Heap} {R : Addr} {cs : List Int} (k : h.StaysIn h') : RowsIn h R cs → RowsIn h' R cs := fun ⟨vs, n, e, r⟩ => ⟨vs, n, k _ _ e, r.keeps k⟩
noncomputable def runR (cds : List Int) (bs : Int) (folds : Bool) (lim : Int) : List Int → Int → Option Int
  | [], p => some p
  | c :: cs, p => match askR cds bs folds c lim p with
    | none => none
    | some q => runR cds bs folds lim cs q
theorem PO.out {o : Option Int} {h h' : Heap} {v : Value} (p : PO o h h' v) : (o = .none ∧ v = .none) ∨ ∃ x t, o = .some x ∧ v = .int x t := by
  cases o with
  | none => exact .inl ⟨rfl, p⟩
  | some x => obtain ⟨t, e⟩ := p; exact .inr ⟨x, t, rfl, e⟩
-- what a run gives; the machine has taken some steps more
noncomputable def PRun (P : MP) (o : Option Int) (taken lim : Int) (kept marks choices changes : Addr) (tl : Tok) (h h' : Heap) (v : Value) : Prop :=
  PO o h h' v ∧ ∃ (taken' : Int) (tt' : Tok), h'.get? P.D = some (P.dict taken' lim kept marks choices changes tt' tl) ∧ taken ≤ taken' ∧ taken' ≤ taken + 4
structure RS where
  i : Nat
  p : Int
  taken : Int
  ti : Tok
  tp : Tok
  tt : Tok
theorem runR_none {cds : List Int} {bs : Int} {folds : Bool} {lim c p : Int} {cs : List Int} (e : askR cds bs folds c lim p = none) : runR cds bs folds lim (c :: cs) p = none := by unfold runR; rw [e]
theorem runR_some {cds : List Int} {bs : Int} {folds : Bool} {lim c p q : Int} {cs : List Int} (e : askR cds bs folds c lim p = some q) : runR cds bs folds lim (c :: cs) p = runR cds bs folds lim cs q := by
  conv => lhs; unfold runR
  rw [e]
-- the row at i
theorem RowsAt.done {h : Heap} : ∀ {cs : List Int} {vs : List Value}, RowsAt h cs vs → ∃ (td : Addr) (tk : Tok) (n : Nat), vs[cs.length]? = some (.ref td) ∧ h.get? td = some (tupOf #[.str (Str.ofString "done") tk] n)
  | [], _, ⟨td, tk, n, e, e2⟩ => ⟨td, tk, n, by rw [e]; rfl, e2⟩
  | _ :: cs, _, ⟨_, _, _, _, rest, e, _, r⟩ => by
    obtain ⟨td, tk, n, a, b⟩ := RowsAt.done r
    exact ⟨td, tk, n, by rw [e, List.length_cons, List.getElem?_cons_succ]; exact a, b⟩
theorem RowsAt.char {h : Heap} : ∀ {cs : List Int} {vs : List Value} {i : Nat}, RowsAt h cs vs → i < cs.length → ∃ (t : Addr) (c : Int) (tr tc : Tok) (n : Nat), vs[i]? = some (.ref t) ∧ h.get? t = some (tupOf #[.str (Str.ofString "char") tr, .int c tc] n) ∧ cs.drop i = c :: cs.drop (i + 1)
  | [], _, _, _, hi => absurd hi (Nat.not_lt_zero _)
  | c :: cs, _, 0, ⟨t, tr, tc, n, rest, e, e2, r⟩, _ => ⟨t, c, tr, tc, n, by rw [e]; rfl, e2, rfl⟩
  | _ :: cs, _, i + 1, ⟨_, _, _, _, rest, e, _, r⟩, hi => by
    obtain ⟨t, c, tr, tc, n, a, b, d⟩ := RowsAt.char r (Nat.lt_of_succ_lt_succ hi)
    exact ⟨t, c, tr, tc, n, by rw [e, List.getElem?_cons_succ]; exact a, b, by rw [List.drop_succ_cons, d, List.drop_succ_cons]⟩
theorem item_at {prog : Program} {w : World} {A : Around} {E : Value → Shared → Prop} {s : Shared} {value slice : Expr} {l : Addr} {vs : List Value} {k : Nat} {u : Tok} {v : Value} {Q : Value → Shared → Prop}
    (hl : s.heap.IsList l vs.toArray) (hhi : k ≤ 1000) (hx : vs[k]? = some v) (h : Q v s)
    (hs : subscripted slice false (.ref l) (.int (k : Int) u) = operate [.ref l, .int (k : Int) u] (getItem (.ref l) (.int (k : Int) u)) := by with_unfolding_all rfl) :
    wpAny (model prog w) A (subscriptTail value slice (.ref l) (.int (k : Int) u)) Q E s :=
  tail_any hl.typeIs slot_list_getitem.lookup (wpAny_getItem_list hl (by omega) (by omega) (by simpa using hx) h) hs
theorem run_c (w : World) (P : MP) (cds cs : List Int) (bs taken lim : Int) (kept marks choices changes : Addr) (tt tl tp : Tok) (place : Int) (nn : Nat) (ht : 0 ≤ taken ∧ taken ≤ 1000) (hcs : cs.length ≤ 3) :
    CtM Mine.kx.heap_1 w 540 (fun h => P.at h ∧ ViewIn h P.view cds bs ∧ RowsIn h P.rows cs ∧ h.get? choices = some (listOf #[] nn)) 7 200 [.ref P.X, .int place tp] [(P.D, P.dict taken lim kept marks choices changes tt tl)]
      (PRun P (runR cds bs P.folds lim cs place) taken lim kept marks choices changes tl) := by
  ((first | (k_dflt (refine' CtM.mkP ?qk6 ?qk7 ?qk9 ?qkB ?qkz ?qc2 ?qc3 ?qc4 ?qc5 ?_; (((((case qk6 => k_is); (case qk7 => k_is); (case qk9 => rfl); (case qc2 => exact rfl); (case qc3 => exact rfl); (case qc4 => exact rfl))); (case qc5 => decide +kernel); (case qkB => exact locs rfl); (case qkz => dsimp only [List.map, List.zip, List.zipWith, List.reverse, List.reverseAux]; try exact rfl); k_whole))); intro p loose mean mg mb dp un gd env outer base sh sg sd so Q E hdp hu g₁ L₁ h₁ tk₁ mm nw F₁ N₁ B₁ X₁ T₁ G₁ lt₁ hp hret A₁ qk ek gk; have bo := BnOn.mk; have bd : Bnd mm := Bnd.mk; have bd : Bnd nw := Bnd.mk) | (k_dflt (refine' CtM.mkC ?qk6 ?qk7 ?qk9 ?qkB ?qkD ?qc2 ?qc3 ?qc4 ?_; (((((case qk6 => k_is); (case qk7 => k_is); (case qk9 => rfl); (case qc2 => exact rfl); (case qc3 => exact rfl); (case qc4 => exact rfl))); (case qkB => exact rfl); (case qkD => decide +kernel); k_whole))); intro p loose mean mg mb dp un gd env outer base sh sg sd so Q E hdp hu g₁ L₁ h₁ tk₁ cells₁ mm F₁ N₁ Y₁ B₁ X₁ T₁ G₁ lt₁ hp hret A₁ qk ek gk; have bo := BnOn.mk; have bd : Bnd mm := Bnd.mk; k_cells Y₁; (try simp only [List.cons_append, List.nil_append] at N₁); (try (fail "bn"; rename News _ _ _ _ => N₁)))))
  obtain ⟨hP, hV, hR, hch⟩ := hp
  obtain ⟨hX, hC, hDC⟩ := id hP
  obtain ⟨vs, nr, hRl, hRa⟩ := hR
  have hRL : g₁.IsList P.rows vs.toArray := ⟨_, hRl, rfl, nr, rfl⟩
  have hCL : g₁.IsList choices #[] := ⟨_, hch, rfl, nn, rfl⟩
  repeat' ((fail_if_success (with_reducible show Q _ _)); first | fail "unf" | (k_end; wrow_close) | ((with_reducible show wpAny _ _ (subscriptTail _ _ _ _) _ _ _); first | ((k_here; (with_reducible show wpAny _ _ (subscriptTail _ _ (Value.ref P.rows) (Value.int _ _)) _ _ _); k_dflt (refine' item_at ?qk1 ?qk2 ?qk3 ?_ ?qk4; (case qk1 => is_list); (case qk2 => omega); (case qk3 => assumption); (case qk4 => with_unfolding_all rfl); k_whole))) | fail) | ((with_reducible show wpAny _ _ (call (Value.ref _) _) _ _ _); first | ((k_here; k_dflt ((((fail "fq"; refine' CtP.use ?qzC ?qzB ?qzF ?qzX ?qzN ?qzT ?qzK1 ?qzK ?qzp ?qzd ?qzu ?_; (case qzC => ((exact asked_c w P cds bs lim kept marks choices changes t9 tl _ c9 _)))))); (case qzB => k_asm); (case qzF => k_asm); (case qzX => k_asm); (case qzN => k_asm); (case qzT => k_asm); (case qzK1 => first | exact rfl | assumption); (case qzK => first | exact rfl | assumption); (case qzp => first | trivial | (first | (exact ⟨MP.at.keeps (Fr.keep (by k_asm)) hP, ⟨_, _, News.get (by k_asm) (by k_mem)⟩, ⟨_, _, _, Fr.keep (by k_asm) _ _ (by assumption)⟩, ViewIn.keeps (Fr.keep (by k_asm)) hV⟩) | (exact ViewIn.keeps (Fr.keep (by k_asm)) (by assumption)))); (case qzd => ktr_room); (case qzu => ktr_units); (focus (((first | ((intro cv ch ctk cS F9 N9 cl cL cP; have cP1 := PO.out cP; clear cP cS cl cL; rcases cP1 with ⟨e9, cV⟩ | ⟨x9, t9, e9, cV⟩ <;> subst cV)) | (first | (intro cv ch ctk cS F9 N9 cl cL cP; have cP1 := PI.out cP; clear cP cS; obtain ⟨ct9, cV⟩ := cP1; subst cV) | (intro cv ch ctk cS F9 N9 cl cL cP; have cP1 := PB.out cP; clear cP cS; subst cP1)))); all_goals ((try k_sweep); (try dsimp only); (try k_fold))))))) | fail) | ((with_reducible show wpAny _ _ (exec (Stmt.While _ _ _ _) _) _ _ _); first | ((k_here; (rename Fr _ _ _ _ => lF'); (rename News _ _ _ _ => lN'); k_dflt (refine' ksw_while (fun c : RS => [(P.D, P.dict c.taken lim kept marks choices changes c.tt tl)]) (fun c : RS => [(Str.ofString "row", Value.int c.i c.ti), (Str.ofString "place", Value.int c.p c.tp)]) (fun c : RS => c.i ≤ cs.length ∧ runR cds bs P.folds lim cs place = runR cds bs P.folds lim (cs.drop c.i) c.p ∧ taken ≤ c.taken ∧ c.taken ≤ taken + c.i) [Str.ofString "word", Str.ofString "later", Str.ofString "choice"] (fun _ => True) (fun c : RS => cs.length - c.i) ⟨0, place, taken, _, tp, tt⟩ lF' ?qkn ?qkf ?qkk trivial ?_; (case qkn => exact lN'); (case qkf => exact ⟨Nat.zero_le _, rfl, Int.le_refl _, by show taken ≤ taken + (0 : Int); omega⟩); (case qkk => kst_all); clear lF' lN'; intro c' u' h' tk' hf' hp' F' N'; (((refine foldG ?_; intro gk))); obtain ⟨ci, cp, ck, cti, ctp, ctt⟩ := c'; (dsimp only [kstB] at F' N' hf'); obtain ⟨hi', hr', hk1, hk2⟩ := hf'; clear hp'; (rcases Nat.lt_or_ge ci cs.length with hlt | hge); (rotate_left; obtain rfl : ci = cs.length := Nat.le_antisymm hi' hge; obtain ⟨t9, tk9, n9, hx9, hg9⟩ := RowsAt.done hRa; have hT9 : IsTup g₁ t9 #[.str (Str.ofString "done") tk9] := ⟨_, hg9, rfl, n9, rfl⟩; rotate_right; obtain ⟨t9, c9, tr9, tc9, n9, hx9, hg9, hd9⟩ := RowsAt.char hRa hlt; have hT9 : IsTup g₁ t9 #[.str (Str.ofString "char") tr9, .int c9 tc9] := ⟨_, hg9, rfl, n9, rfl⟩); all_goals ((((first | k_unfold | (k_unmd; k_unfold) | skip); (try fail "nrm"); (try k_fold); (try (fail_if_success (fail_if_success (have bq : BnOn := by with_reducible assumption)); (try fail "bm"); (try fail "bn"))))))))) | fail) | walk1 | (dsimp only; walk1) | (leave1; try dsimp only) | (dsimp only) | fail "no step")
  · ((refine hret _ _ _ _ (by k_asm) ?_))
    exact ⟨by rw [hr', hd9, runR_none e9]; rfl, _, _, News.get (by k_asm) (by k_mem), by omega, by omega⟩
  · refine' ksw_end (⟨ci + 1, x9, ck + 1, ?qti, ?qtp, ?qtt⟩ : RS) ?qF ?qN ?qhn ?qhf ?qhk ?qhr trivial ?qhm
    case qF => k_asm
    case qhk => kst_all
    case qN => k_asm
    case qhn => dsimp only; lcg_sub
    case qhf => exact ⟨hlt, by rw [hr', hd9, runR_some e9], by dsimp only; omega, by dsimp only; omega⟩
    case qhr => ksw_same
    case qhm => dsimp only; omega
  · ((refine hret _ _ _ _ (by k_asm) ?_))
    exact ⟨by rw [hr', List.drop_length]; exact ⟨_, rfl⟩, _, _, News.get (by k_asm) (by k_mem), by omega, by omega⟩
end
section
theorem gfresh {h g h' : Heap} {L x : Addr} {o : Obj} {own : List Addr} {news : List (Addr × Obj)} (G : GSub h g own) (N : News g L h' news) (hm : (x, o) ∈ news) (hx : x ∉ own) : h.get? x = none := by
  cases e : h.get? x with
  | none => rfl
  | some o' => have := G _ _ e hx; rw [N.fresh hm] at this; cases this
-- a pair of ints, made anew
noncomputable def PT (a b : Int) (h h' : Heap) (v : Value) : Prop := ∃ (l : Addr) (ta tb : Tok) (n : Nat), v = .ref l ∧ h'.get? l = some (tupOf #[.int a ta, .int b tb] n) ∧ h.get? l = none
theorem PT.onto {a b : Int} {h₀ h h' : Heap} {L : Addr} {m : Str → Option Value} {v : Value} {news : List (Addr × Obj)} (Fo : Fr h₀ L h m) (No : News h₀ L h news) (N : News h₀ L h' news) (P : PT a b h h' v) :
    ∃ (l : Addr) (ta tb : Tok) (n : Nat), v = .ref l ∧ News h₀ L h' ((l, tupOf #[.int a ta, .int b tb] n) :: news) ∧ AllNe l news := by
  obtain ⟨l, ta, tb, n, rfl, e1, e2⟩ := P
  refine ⟨l, ta, tb, n, rfl, news_put N e1 ⟨?_, ?_⟩, allNe_of fun q hq e => by rw [← e, (No q hq).1] at e2; cases e2⟩
  · rintro rfl
    obtain ⟨oL, _, _, hL, _⟩ := Fo.ns
    rw [hL] at e2; cases e2
  · cases q : h₀.get? l with
    | none => rfl
    | some o => rw [Fo.keep _ _ q] at e2; cases e2
theorem span_c (w : World) (P : MP) (taken lim : Int) (kept marks choices changes : Addr) (tt tl : Tok) (a b k : Int) (t ta tb : Tok) (n : Nat) (ha : 0 ≤ a) (hb : 0 ≤ b) (hk : k = 0) :
    CtP Mine.kx.heap_1 w 533 (fun h => P.at h ∧ h.get? P.D = some (P.dict taken lim kept marks choices changes tt tl) ∧ h.get? kept = some (listOf #[.int a ta, .int b tb] n)) 2 60 [.ref P.X, .int k t] (PT a b) := by
  subst hk
  ((first | (k_dflt (refine' CtP.mkP ?qk6 ?qk7 ?qk9 ?qkB ?qkz ?qc2 ?qc3 ?qc4 ?qc5 ?_; (((((case qk6 => k_is); (case qk7 => k_is); (case qk9 => rfl); (case qc2 => exact rfl); (case qc3 => exact rfl); (case qc4 => exact rfl))); (case qc5 => decide +kernel); (case qkB => exact locs rfl); (case qkz => dsimp only [List.map, List.zip, List.zipWith, List.reverse, List.reverseAux]; try exact rfl); k_whole))); intro p loose mean mg mb dp un gd env outer base sh sg sd so Q E hdp hu hp hret L₁ h₁ tk₁ mm F₁ N₁ B₁ X₁ T₁ A₁ qk ek gk; have bo := BnOn.mk; have bd : Bnd mm := Bnd.mk) | (k_dflt (refine' CtP.mkC ?qk6 ?qk7 ?qk9 ?qkB ?qkD ?qc2 ?qc3 ?qc4 ?_; (((((case qk6 => k_is); (case qk7 => k_is); (case qk9 => rfl); (case qc2 => exact rfl); (case qc3 => exact rfl); (case qc4 => exact rfl))); (case qkB => exact rfl); (case qkD => decide +kernel); k_whole))); intro p loose mean mg mb dp un gd env outer base sh sg sd so Q E hdp hu hp hret L₁ h₁ tk₁ cells₁ mm F₁ N₁ Y₁ B₁ X₁ T₁ A₁ qk ek gk; have bo := BnOn.mk; have bd : Bnd mm := Bnd.mk; k_cells Y₁; (try (fail "bn"; rename News _ _ _ _ => N₁)))))
  obtain ⟨⟨hX, hC, hDC⟩, hD, hK⟩ := hp
  have hKL : sh.IsList kept #[.int a ta, .int b tb] := ⟨_, hK, rfl, n, rfl⟩
  repeat' ((fail_if_success (with_reducible show Q _ _)); first | fail "unf" | (k_end; wrow_close) | ((with_reducible show wpAny _ _ (call (Value.ref _) _) _ _ _); first | ((k_here; k_dflt ((fail "mine useP"); (case qzB => k_asm); (case qzF => k_asm); (case qzX => k_asm); (case qzN => k_asm); (case qzT => k_asm); (case qzK1 => first | exact rfl | assumption); (case qzK => first | exact rfl | assumption); (case qzp => first | trivial | (exact ViewIn.keeps (Fr.keep (by k_asm)) (by assumption))); (case qzd => ktr_room); (case qzu => ktr_units); (focus (((first | (intro cv ch ctk cS F9 N9 cl cL cP; have cP1 := PI.out cP; clear cP cS; obtain ⟨ct9, cV⟩ := cP1; subst cV) | (intro cv ch ctk cS F9 N9 cl cL cP; have cP1 := PB.out cP; clear cP cS; subst cP1))); all_goals ((try k_sweep); (try dsimp only); (try k_fold))))))) | fail) | walk1 | (dsimp only; walk1) | (leave1; try dsimp only) | (dsimp only) | fail "no step")
  ((refine hret _ _ _ (Fr.keep (by k_asm)) ?_))
  rename News _ _ _ _ => N'; dsimp +zetaDelta only at N'
  refine ⟨_, ta, tb, 0, rfl, News.get N' (List.Mem.head _), ?_⟩
  cases e : sh.get? _ with
  | none => rfl
  | some o => have := N'.fresh (List.Mem.head _); rw [this] at e; cases e

-- what a match gives; the machine's state behind it
noncomputable def PMat (P : MP) (o : Option (Int × Int)) (taken lim : Int) (h h' : Heap) (v : Value) : Prop :=
  PF o h h' v ∧ ∃ (taken' : Int) (tt' tl' : Tok) (kept marks choices changes : Addr), h'.get? P.D = some (P.dict taken' lim kept marks choices changes tt' tl') ∧ taken ≤ taken' ∧ taken' ≤ taken + 4
theorem askR_step {cds : List Int} {bs : Int} {folds : Bool} {c lim p q : Int} (e : askR cds bs folds c lim p = some q) : q = p + 1 := by
  unfold askR at e
  split at e
  · cases e; rfl
  · cases e
theorem runR_len {cds : List Int} {bs : Int} {folds : Bool} {lim : Int} : ∀ {cs : List Int} {p q : Int}, runR cds bs folds lim cs p = some q → q = p + cs.length
  | [], p, q, e => by cases e; simp
  | c :: cs, p, q, e => by
    cases h : askR cds bs folds c lim p with
    | none => rw [runR_none h] at e; cases e
    | some r =>
      rw [runR_some h] at e
      have := runR_len e; have := askR_step h
      rw [List.length_cons]; omega
theorem runR_nonneg {cds : List Int} {bs : Int} {folds : Bool} {lim : Int} {cs : List Int} {p q : Int} (h : 0 ≤ p) (e : runR cds bs folds lim cs p = some q) : 0 ≤ q := by have := runR_len e; omega
theorem match_at_c (w : World) (P : MP) (cds cs : List Int) (bs taken lim lim0 : Int) (kept marks choices changes : Addr) (tt tl tl0 tp : Tok) (place : Int) (ht : 0 ≤ taken ∧ taken ≤ 1000) (hcs : cs.length ≤ 3) (hpl : 0 ≤ place ∧ place ≤ 1000) :
    CtM Mine.kx.heap_1 w 526 (fun h => P.at h ∧ ViewIn h P.view cds bs ∧ RowsIn h P.rows cs) 9 300 [.ref P.X, .int place tp, .int lim tl] [(P.D, P.dict taken lim0 kept marks choices changes tt tl0)]
      (PMat P ((runR cds bs P.folds lim cs place).map fun e => (place, e)) taken lim) := by
  ((first | (k_dflt (refine' CtM.mkP ?qk6 ?qk7 ?qk9 ?qkB ?qkz ?qc2 ?qc3 ?qc4 ?qc5 ?_; (((((case qk6 => k_is); (case qk7 => k_is); (case qk9 => rfl); (case qc2 => exact rfl); (case qc3 => exact rfl); (case qc4 => exact rfl))); (case qc5 => decide +kernel); (case qkB => exact locs rfl); (case qkz => dsimp only [List.map, List.zip, List.zipWith, List.reverse, List.reverseAux]; try exact rfl); k_whole))); intro p loose mean mg mb dp un gd env outer base sh sg sd so Q E hdp hu g₁ L₁ h₁ tk₁ mm nw F₁ N₁ B₁ X₁ T₁ G₁ lt₁ hp hret A₁ qk ek gk; have bo := BnOn.mk; have bd : Bnd mm := Bnd.mk; have bd : Bnd nw := Bnd.mk) | (k_dflt (refine' CtM.mkC ?qk6 ?qk7 ?qk9 ?qkB ?qkD ?qc2 ?qc3 ?qc4 ?_; (((((case qk6 => k_is); (case qk7 => k_is); (case qk9 => rfl); (case qc2 => exact rfl); (case qc3 => exact rfl); (case qc4 => exact rfl))); (case qkB => exact rfl); (case qkD => decide +kernel); k_whole))); intro p loose mean mg mb dp un gd env outer base sh sg sd so Q E hdp hu g₁ L₁ h₁ tk₁ cells₁ mm F₁ N₁ Y₁ B₁ X₁ T₁ G₁ lt₁ hp hret A₁ qk ek gk; have bo := BnOn.mk; have bd : Bnd mm := Bnd.mk; k_cells Y₁; (try simp only [List.cons_append, List.nil_append] at N₁); (try (fail "bn"; rename News _ _ _ _ => N₁)))))
  obtain ⟨hP, hV, hR⟩ := hp
  obtain ⟨hX, hC, hDC⟩ := id hP
  repeat' ((fail_if_success (with_reducible show Q _ _)); first | fail "unf" | (k_end; wrow_close) | ((with_reducible show LCg.CompSrc _ _ _ _ _ _ _ _ _ _ _ _ _ _); first | ((k_here; k_dflt (refine LCg.CompSrc.range (by rfl) (by k_asm) (by k_asm) (by assumption) (by decide) (by rfl) (by exact Nat.le_of_ble_eq_true rfl) ?_; intro g'; lcg_lit))) | fail) | ((with_reducible show LCg.CompRest _ _ _ _ _ _ _ _ _ _ _ _ _ _ _ _ _ _ _); first | ((with_unfolding_all first | (refine LCg.CompRest.succ ?_; intro v' I' oI' C' oC' D' m' h' tk' E' hv' hC' hx' F' N' off' ne'; (first | lcg_open hv' | (obtain ⟨t9', hv9'⟩ := hv'; subst hv9'))) | refine LCg.CompRest.zero ?_)) | fail) | ((with_reducible show wpAny _ _ (newList _) _ _ _); first | ((k_here; k_dflt (refine' newList_K ?qk1 ?qk2 ?_; (case qk1 => k_asm); (case qk2 => k_asm); k_whole); intro l' h' F' N' l1; (try k_lt l1); (try k_sweep); (try dsimp only))) | fail) | ((with_reducible show wpAny _ _ (binaryOp _ (Value.ref _) _) _ _ _); first | ((k_here; (with_reducible show wpAny _ _ (binaryOp Operator.Mult (Value.ref _) (Value.int _ _)) _ _ _); k_dflt (refine' KMa.mul ?qF ?qN ?ql ?qlo ?qhi ?qz ?qe ?_; (case qF => k_asm); (case qN => k_asm); (case ql => is_list); (case qlo => first | omega | decide); (case qhi => first | omega | decide); (case qz => (simp only [List.length_cons, List.length_nil]; decide)); (case qe => first | exact (show (List.replicate _ [Value.int (-1) _]).flatten = [Value.int (-1) _, Value.int (-1) _] from rfl) | exact (show (List.replicate _ [Value.int (-1) _]).flatten = [] from rfl)); k_whole); intro D' h' F' N' l1; (try k_lt l1); (try k_sweep); (try dsimp only))) | fail) | ((with_reducible show wpAny _ _ (call (Value.ref _) _) _ _ _); first | ((k_here; k_dflt ((((fail "fq"; refine' CtP.use (span_c w P _ lim _ _ _ _ _ tl place x9 _ _ _ _ _ hpl.1 hx9 ?qzs1) ?qzB ?qzF ?qzX ?qzN ?qzT ?qzK1 ?qzK ?qzp ?qzd ?qzu ?_; (case qzs1 => omega)))); (case qzB => k_asm); (case qzF => k_asm); (case qzX => k_asm); (case qzN => k_asm); (case qzT => k_asm); (case qzK1 => first | exact rfl | assumption); (case qzK => first | exact rfl | assumption); (case qzp => first | trivial | (first | (exact ⟨hP.keeps (Fr.keep (by k_asm)), News.get (by k_asm) (by k_mem), News.get (by k_asm) (by k_mem)⟩) | (exact ViewIn.keeps (Fr.keep (by k_asm)) (by assumption)))); (case qzd => ktr_room); (case qzu => ktr_units); (focus (((first | ((intro cv ch ctk cS F9 N9 cl cL cP; have cP1 := PT.onto (by k_asm) (by k_asm) N9 cP; clear cP cS cl cL; obtain ⟨t9, ta9, tb9, n9, cV, N8, nn1⟩ := cP1; clear N9; subst cV)) | (first | (intro cv ch ctk cS F9 N9 cl cL cP; have cP1 := PI.out cP; clear cP cS; obtain ⟨ct9, cV⟩ := cP1; subst cV) | (intro cv ch ctk cS F9 N9 cl cL cP; have cP1 := PB.out cP; clear cP cS; subst cP1)))); all_goals ((try k_sweep); (try dsimp only); (try k_fold))))))) | ((k_here; k_dflt ((((fail "fq"; refine' CtM.useR (run_c w P cds cs bs _ _ _ _ _ _ _ _ _ _ _ ?qs1 hcs) ?qzB ?qzF ?qzX ?qzN ?qzT ?qzK1 ?qzK ?qzR ?qzp ?qzd ?qzu ?_))); (case qzB => k_asm); (case qzF => k_asm); (case qzX => k_asm); (case qzN => k_asm); (case qzT => k_asm); (case qzK1 => first | exact rfl | assumption); (case qzK => first | exact rfl | assumption); (case qzR => fail "mine rems"); (try (case qs1 => omega)); (case qzp => first | exact fun _ _ => trivial | ((intro g2 G2 S2; exact ⟨hP.keeps S2, hV.keeps S2, hR.keeps S2, G2 _ _ (News.get (by k_asm) (by k_mem)) (by simp; k_ne)⟩))); (case qzd => ktr_room); (case qzu => ktr_units); (focus ((((intro cv ch ctk cG F9 N9 cO cP; obtain ⟨cP1, tk9, tt9, cD, cle1, cle2⟩ := cP; replace N9 := news_put N9 cD (cO _ (List.Mem.head _)); replace cP1 := PO.out cP1; clear cG cO cD; (rcases cP1 with ⟨e9, cV⟩ | ⟨x9, t9, e9, cV⟩); rotate_left; have hx9 := runR_nonneg hpl.1 e9; rotate_right; all_goals subst cV))); all_goals ((try k_sweep); (try dsimp only); (try k_fold))))))) | fail) | walk1 | (dsimp only; walk1) | (leave1; try dsimp only) | (dsimp only) | fail "no step")
  · ((refine hret _ _ _ _ (by k_asm) ?_))
    refine ⟨?_, _, _, _, _, _, _, _, News.get (by k_asm) (by k_mem), by omega, by omega⟩
    rw [e9]
    exact rfl
  · ((refine hret _ _ _ _ (by k_asm) ?_))
    rename News _ _ _ _ => N9; (try dsimp +zetaDelta only at N9)
    refine ⟨?_, _, _, _, _, _, _, _, News.get (by k_asm) (by k_mem), by omega, by omega⟩
    rw [e9]
    exact ⟨_, _, _, _, _, _, rfl, News.get N9 (List.Mem.head _), News.get N9 (List.Mem.tail _ (List.Mem.head _)), gfresh G₁ N9 (List.Mem.tail _ (List.Mem.head _)) (by simp; k_ne), gfresh G₁ N9 (List.Mem.head _) (by simp; k_ne), by k_ne⟩
end
section
-- a compiled part of the heap
noncomputable def CodeIn (P : MP) (h : Heap) : Prop := h.get? P.code = some (instObj 357 P.dcode) ∧
  h.get? P.dcode = some (dictOf [⟨P.hc 0, .str (Str.ofString "rows") (P.tc 0), .ref P.rows⟩, ⟨P.hc 1, .str (Str.ofString "groups") (P.tc 1), .int 0 (P.tc 4)⟩, ⟨P.hc 2, .str (Str.ofString "marks") (P.tc 2), .int 0 (P.tc 5)⟩, ⟨P.hc 3, .str (Str.ofString "folds") (P.tc 3), .bool P.folds⟩] 4)
theorem CodeIn.keeps {P : MP} {h h' : Heap} (k : h.StaysIn h') (a : CodeIn P h) : CodeIn P h' := ⟨k _ _ a.1, k _ _ a.2⟩
-- the search by a machine, as the program reckons it
noncomputable def reSearch (cds : List Int) (bs : Int) (folds : Bool) (cs : List Int) (place last : Int) : Option (Int × Int) :=
  (findUp (fun p => (runR cds bs folds last cs p).isSome) place (last + 1 - place).toNat).map fun p => (p, p + cs.length)
theorem mp_newL {G : Prop} (P : MP) {h₀ h : Heap} {L d x k m c ch : Addr} {news : List (Addr × Obj)} {h0 h1 h2 h3 h4 h5 h6 h7 h8 h9 h10 : Int} {t0 t1 t2 t3 t4 t5 t6 t7 t8 t9 t10 t11 t12 tt tl : Tok} (N : News h₀ L h news)
    (hm : (d, dictOf [⟨h0, .str (Str.ofString "code") t0, .ref P.code⟩, ⟨h1, .str (Str.ofString "view") t1, .ref P.view⟩, ⟨h2, .str (Str.ofString "table") t2, P.table⟩, ⟨h3, .str (Str.ofString "point") t3, .int 0 t11⟩, ⟨h4, .str (Str.ofString "steps") t4, .int 400000 t12⟩, ⟨h5, .str (Str.ofString "taken") t5, .int 0 tt⟩, ⟨h6, .str (Str.ofString "limit") t6, .int 0 tl⟩, ⟨h7, .str (Str.ofString "kept") t7, .ref k⟩, ⟨h8, .str (Str.ofString "marks") t8, .ref m⟩, ⟨h9, .str (Str.ofString "choices") t9, .ref c⟩, ⟨h10, .str (Str.ofString "changes") t10, .ref ch⟩] 11) ∈ news) (hx : (x, instObj 583 d) ∈ news)
    (kk : let P' : MP := ⟨fun i => [h0, h1, h2, h3, h4, h5, h6, h7, h8, h9, h10].getD i 0, fun i => [t0, t1, t2, t3, t4, t5, t6, t7, t8, t9, t10, t11, t12].getD i 0, P.hc, P.tc, P.code, P.dcode, P.rows, P.view, d, x, P.table, P.folds⟩;
      P'.rows = P.rows → P'.view = P.view → P'.folds = P.folds → (∀ h, CodeIn P h → CodeIn P' h) → News h₀ L h ([(P'.D, P'.dict 0 0 k m c ch tt tl)] ++ [(P'.X, instObj 583 P'.D)]) → G) : G :=
  kk rfl rfl rfl (fun _ hc => hc) fun q hq => by
    rcases List.mem_cons.mp hq with rfl | hq
    · exact N _ hm
    · obtain rfl := List.mem_singleton.mp hq
      exact N _ hx
-- what a machine's state is between the starts
structure MS where
  taken : Int
  lim : Int
  kept : Addr
  marks : Addr
  choices : Addr
  changes : Addr
  tt : Tok
  tl : Tok
theorem PF.ontoS {o : Option (Int × Int)} {h₀ h h' : Heap} {L : Addr} {m : Str → Option Value} {v : Value} {news all : List (Addr × Obj)} (Fo : Fr h₀ L h m) (No : News h₀ L h all) (N : News h₀ L h' news) (sub : ∀ q ∈ news, q ∈ all) (P : PF o h h' v) :
    (o = none ∧ v = .none) ∨ ∃ (a b : Int) (l t : Addr) (ta tb : Tok) (n1 n2 : Nat), o = some (a, b) ∧ v = .ref l ∧ News h₀ L h' ((l, listOf #[.ref t] n1) :: (t, tupOf #[.int a ta, .int b tb] n2) :: news) ∧ @Ne Nat t l ∧ AllNe l news ∧ AllNe t news :=
  PF.onto Fo (fun q hq => No q (sub q hq)) N P
theorem re_search_c (w : World) (P : MP) (cds cs : List Int) (bs place bound : Int) (tp tb tq : Tok) (hcs : cs.length ≤ 3) (hpl : 0 ≤ place ∧ place ≤ 100) (hbd : 0 ≤ bound ∧ bound ≤ 100) (hlen : cds.length ≤ 100) (hbs : bs = 0) :
    CtP Mine.kx.heap_1 w 658 (fun h => CodeIn P h ∧ ViewIn h P.view cds bs ∧ RowsIn h P.rows cs) 12 400 [.ref P.view, P.table, .int place tp, .ref P.code, .int bound tb, .int 0 tq]
      (PF (reSearch cds bs P.folds cs place (min bound (bs + cds.length)))) := by
  ((first | (k_dflt (refine' CtP.mkP ?qk6 ?qk7 ?qk9 ?qkB ?qkz ?qc2 ?qc3 ?qc4 ?qc5 ?_; (((((case qk6 => k_is); (case qk7 => k_is); (case qk9 => rfl); (case qc2 => exact rfl); (case qc3 => exact rfl); (case qc4 => exact rfl))); (case qc5 => decide +kernel); (case qkB => exact locs rfl); (case qkz => dsimp only [List.map, List.zip, List.zipWith, List.reverse, List.reverseAux]; try exact rfl); k_whole))); intro p loose mean mg mb dp un gd env outer base sh sg sd so Q E hdp hu hp hret L₁ h₁ tk₁ mm F₁ N₁ B₁ X₁ T₁ A₁ qk ek gk; have bo := BnOn.mk; have bd : Bnd mm := Bnd.mk) | (k_dflt (refine' CtP.mkC ?qk6 ?qk7 ?qk9 ?qkB ?qkD ?qc2 ?qc3 ?qc4 ?_; (((((case qk6 => k_is); (case qk7 => k_is); (case qk9 => rfl); (case qc2 => exact rfl); (case qc3 => exact rfl); (case qc4 => exact rfl))); (case qkB => exact rfl); (case qkD => decide +kernel); k_whole))); intro p loose mean mg mb dp un gd env outer base sh sg sd so Q E hdp hu hp hret L₁ h₁ tk₁ cells₁ mm F₁ N₁ Y₁ B₁ X₁ T₁ A₁ qk ek gk; have bo := BnOn.mk; have bd : Bnd mm := Bnd.mk; k_cells Y₁; (try (fail "bn"; rename News _ _ _ _ => N₁)))))
  obtain ⟨hC, hV, hR⟩ := hp
  obtain ⟨hC1, hC2⟩ := id hC
  refine ViewIn.elim (id hV) fun dx l' vs n h1 h2 t1 t2 tb' hx hdx hl hi hlen' hb => ?_
  repeat' ((fail_if_success (with_reducible show Q _ _)); first | fail "unf" | (k_end; wrow_close) | ((with_reducible show wpAny _ _ (call (Value.ref _) _) _ _ _); first | ((k_here; k_dflt ((((fail "fq"; refine' CtP.use ?qzC ?qzB ?qzF ?qzX ?qzN ?qzT ?qzK1 ?qzK ?qzp ?qzd ?qzu ?_; (case qzC => (first | (exact end_c w P.view cds bs)))))); (case qzB => k_asm); (case qzF => k_asm); (case qzX => k_asm); (case qzN => k_asm); (case qzT => k_asm); (case qzK1 => first | exact rfl | assumption); (case qzK => first | exact rfl | assumption); (case qzp => first | trivial | (first | (exact ViewIn.keeps (Fr.keep (by k_asm)) (by assumption)) | (exact ViewIn.keeps (Fr.keep (by k_asm)) (by assumption)))); (case qzd => ktr_room); (case qzu => ktr_units); (focus (((first | (intro cv ch ctk cS F9 N9 cl cL cP; have cP1 := PI.out cP; clear cP cS; obtain ⟨ct9, cV⟩ := cP1; subst cV) | (intro cv ch ctk cS F9 N9 cl cL cP; have cP1 := PB.out cP; clear cP cS; subst cP1))); all_goals ((try k_sweep); (try dsimp only); (try k_fold))))))) | ((k_here; k_dflt ((((fail "fq"; refine' CtM.useR (match_at_c w P' cds cs bs tk0 _ lim0 kp0 mk0 ch0 cg0 tt0 _ tl0 _ _ ⟨?qzs1, ?qzs2⟩ hcs ⟨?qzs3, ?qzs4⟩) ?qzB ?qzF ?qzX ?qzN ?qzT ?qzK1 ?qzK ?qzR ?qzp ?qzd ?qzu ?_; (case qzs1 => omega); (case qzs2 => omega); (case qzs3 => omega); (case qzs4 => omega)))); (case qzB => k_asm); (case qzF => k_asm); (case qzX => k_asm); (case qzN => k_asm); (case qzT => k_asm); (case qzK1 => first | exact rfl | assumption); (case qzK => first | exact rfl | assumption); (case qzR => fail "mine rems"); (try (case qs1 => omega)); (case qzp => first | exact fun _ _ => trivial | ((intro g2 G2 S2; exact ⟨⟨G2 _ _ (News.get (by k_asm) (by k_mem)) (by simp; k_ne), (hC'.keeps S2).1, (hC'.keeps S2).2⟩, q3 ▸ hV.keeps S2, q2 ▸ hR.keeps S2⟩))); (case qzd => ktr_room); (case qzu => ktr_units); (focus ((((intro cv ch ctk cG F9 N9 cO cP; obtain ⟨cP1, tk9, tt9, tl9, kp9, mk9, ch9, cg9, cD, cle1, cle2⟩ := cP; have cP1 := PF.ontoS (by k_asm) (by k_asm) N9 (by lcg_sub) cP1; (rcases cP1 with ⟨e9, cV⟩ | ⟨a9, b9, l9, t9, ta9, tb9, n19, n29, e9, cV, N8, ne9, nn1, nn2⟩); rotate_left; (replace N9 := news_put N8 cD (cO _ (List.Mem.head _))); clear N8 cG cO cD; rotate_right; (replace N9 := news_put N9 cD (cO _ (List.Mem.head _))); clear cG cO cD; all_goals subst cV))); all_goals ((try k_sweep); (try dsimp only); (try k_fold))))))) | fail) | ((with_reducible show wpAny _ _ (pyIter (Value.ref _)) _ _ _); k_dflt ((((rename News _ _ _ _ => lN'); (refine foldG ?_; intro gk; refine mp_newL P lN' (by k_mem) (by k_mem) ?_; intro P' q2 q3 q4 hC' N7; k_unfold); clear lN'; (replace hC' := hC' _ hC); (refine' range_S (σ := MS) _ [Str.ofString "found"] (fun c => [(P'.D, P'.dict c.taken c.lim c.kept c.marks c.choices c.changes c.tt c.tl)]) (fun i c => 0 ≤ c.taken ∧ c.taken ≤ 4 * i ∧ ∀ j : Nat, j < i → (runR cds bs P.folds (if bs + cds.length < bound then bs + cds.length else bound) cs (place + j)).isSome = false) ⟨0, 0, _, _, _, _, _, _⟩ rfl (by assumption) ?qzhs rfl (by assumption) N7 ⟨Int.le_refl _, Int.le_refl _, fun _ h => absurd h (Nat.not_lt_zero _)⟩ (fun i' t' u' st' h' tk' I' oI' hi' hP' hoff' F' N' => ?_) (fun u' st' h' tk' hP' F' N' => ?_)); (case qzhs => (refine small_one ?_ ?_ ?_ ?_ <;> omega)); (((refine foldG ?_; intro gk))); (obtain ⟨tk0, lim0, kp0, mk0, ch0, cg0, tt0, tl0⟩ := st'); (dsimp only at hP' F' N' hoff'); (obtain ⟨hq1, hq2, hq3⟩ := hP'); ((((first | k_unfold | (k_unmd; k_unfold) | skip); (try fail "nrm"); (try k_fold); (try (fail_if_success (fail_if_success (have bq : BnOn := by with_reducible assumption)); (try fail "bm"); (try fail "bn")))))))))) | walk1 | (dsimp only; walk1) | (leave1; try dsimp only) | (dsimp only) | fail "no step")
  · refine' js_end (⟨tk9, _, kp9, mk9, ch9, cg9, tt9, tl9⟩ : MS) ?qzF ?qzN ?qzhI ?qzhn ?qzho ?qzhm ?qzhP
    case qzF => k_asm
    case qzN => k_asm
    case qzhI => k_mem
    case qzhn => lcg_sub
    case qzho => k_all
    case qzhm => ((intro z h1 h2; (try dsimp +zetaDelta only); (simp only [List.contains_cons, List.contains_nil, Bool.or_false, Bool.or_eq_false_iff, beq_eq_false_iff_ne, ne_eq] at h1 h2); (simp [h1, h2]; done)))
    case qzhP =>
      refine ⟨by dsimp only; omega, by dsimp only; omega, fun j hj => ?_⟩
      rcases Nat.lt_succ_iff_lt_or_eq.mp hj with h7 | rfl
      · exact hq3 _ h7
      · rw [q4] at e9
        cases e : runR cds bs P.folds (if bs + cds.length < bound then bs + cds.length else bound) cs (place + j) with
        | none => rfl
        | some y => rw [e] at e9; cases e9
  · ((refine hret _ _ _ (Fr.keep (by k_asm)) ?_))
    have e : reSearch cds bs P.folds cs place (min bound (bs + cds.length)) = some (a9, b9) := by
      unfold reSearch
      rw [min_ite]
      rw [q4] at e9
      cases e : runR cds bs P.folds (if bs + cds.length < bound then bs + cds.length else bound) cs (place + i') with
      | none => rw [e] at e9; cases e9
      | some y =>
        rw [e] at e9; cases e9
        have h8 := runR_len e
        rw [findUp_some hi' hq3 (by rw [e]; rfl), h8]; rfl
    rw [e]
    exact PF.mk (fun _ _ e => e) (by k_asm) (by k_mem) (by k_mem) ne9
  · ((refine hret _ _ _ (Fr.keep (by k_asm)) ?_))
    have e : reSearch cds bs P.folds cs place (min bound (bs + cds.length)) = none := by
      unfold reSearch
      rw [min_ite, findUp_none hP'.2.2]; rfl
    rw [e]; rfl
end
section
theorem ints_item {vs : List Value} {ns : List Int} (hi : IntsAre vs ns) {i : Nat} {v : Value} (hv : vs.toArray[i]? = some v) : ∃ c t, v = .int c t ∧ ns[i]? = some c ∧ c ∈ ns := by
  have hv' : vs[i]? = some v := by simpa using hv
  have hlt : i < ns.length := by rw [← hi.length]; exact (List.getElem?_eq_some_iff.mp hv').1
  obtain ⟨t, hx⟩ := hi.get i ns[i] (by simp [hlt])
  rw [hv'] at hx
  exact ⟨ns[i], t, Option.some.inj hx, by simp [hlt], List.getElem_mem _⟩
-- a list of ints, made anew
noncomputable def PInts (cs : List Int) (h h' : Heap) (v : Value) : Prop := ∃ (l : Addr) (ws : List Value) (n : Nat), v = .ref l ∧ h'.get? l = some (listOf ws.toArray n) ∧ IntsAre ws cs ∧ h.get? l = none
theorem take_snoc {α : Type} {l : List α} {i : Nat} {v : α} (h : l.toArray[i]? = some v) : l.take i ++ [v] = l.take (i + 1) := by
  have hv' : l[i]? = some v := by simpa using h
  rw [List.take_add_one, hv']; rfl
theorem quote_c (w : World) (l : Addr) (cs : List Int) (hcl : cs.length ≤ 3) (hcs : ∀ c ∈ cs, c = 66 ∨ c = 97 ∨ c = 98) :
    CtP Mine.kx.heap_1 w 679 (fun h => IntsIn h l cs) 3 100 [.ref l] (PInts cs) := by
  ((first | (k_dflt (refine' CtP.mkP ?qk6 ?qk7 ?qk9 ?qkB ?qkz ?qc2 ?qc3 ?qc4 ?qc5 ?_; (((((case qk6 => k_is); (case qk7 => k_is); (case qk9 => rfl); (case qc2 => exact rfl); (case qc3 => exact rfl); (case qc4 => exact rfl))); (case qc5 => decide +kernel); (case qkB => exact locs rfl); (case qkz => dsimp only [List.map, List.zip, List.zipWith, List.reverse, List.reverseAux]; try exact rfl); k_whole))); intro p loose mean mg mb dp un gd env outer base sh sg sd so Q E hdp hu hp hret L₁ h₁ tk₁ mm F₁ N₁ B₁ X₁ T₁ A₁ qk ek gk; have bo := BnOn.mk; have bd : Bnd mm := Bnd.mk) | (k_dflt (refine' CtP.mkC ?qk6 ?qk7 ?qk9 ?qkB ?qkD ?qc2 ?qc3 ?qc4 ?_; (((((case qk6 => k_is); (case qk7 => k_is); (case qk9 => rfl); (case qc2 => exact rfl); (case qc3 => exact rfl); (case qc4 => exact rfl))); (case qkB => exact rfl); (case qkD => decide +kernel); k_whole))); intro p loose mean mg mb dp un gd env outer base sh sg sd so Q E hdp hu hp hret L₁ h₁ tk₁ cells₁ mm F₁ N₁ Y₁ B₁ X₁ T₁ A₁ qk ek gk; have bo := BnOn.mk; have bd : Bnd mm := Bnd.mk; k_cells Y₁; (try (fail "bn"; rename News _ _ _ _ => N₁)))))
  obtain ⟨ws, hw, hwi⟩ := hp
  repeat' ((fail_if_success (with_reducible show Q _ _)); first | fail "unf" | (k_end; wrow_close) | ((with_reducible show @ite _ _ _ _ _); first | (first | refine iteT ?_ | refine iteF ?_ | fail) | fail) | ((with_reducible show wpAny _ _ (call (Value.builtin _) _) _ _ _); first | ((k_here; (with_reducible show wpAny _ _ (call (Value.builtin _) [Value.ref _, _]) _ _ _); k_dflt (refine' append_K ?qk1 ?qk2 ?qk3 ?_ ?qz; (case qk1 => k_asm); (case qk2 => k_asm); (case qk3 => k_upd); (case qz => ((rw [PySem.sizeLine_eq]); (simp only [List.size_toArray]); omega)); k_whole); intro h' F' N'; (try k_sweep))) | fail) | ((with_reducible show wpAny _ _ (exec (Stmt.For _ _ _ _ _) _) _ _ _); first | ((k_here; (rename Fr _ _ _ _ => lF'); (with_unfolding_all refine' For_invVF lF' ?qk1 ?qk2 ?_; (case qk1 => exact rfl); (case qk2 => exact rfl)); (try k_fold))) | fail) | ((with_reducible show wpAny _ _ (call (Value.ref _) _) _ _ _); first | ((k_here; k_dflt ((fail "mine useP"); (case qzB => k_asm); (case qzF => k_asm); (case qzX => k_asm); (case qzN => k_asm); (case qzT => k_asm); (case qzK1 => first | exact rfl | assumption); (case qzK => first | exact rfl | assumption); (case qzp => first | trivial | (exact ViewIn.keeps (Fr.keep (by k_asm)) (by assumption))); (case qzd => ktr_room); (case qzu => ktr_units); (focus (((first | (intro cv ch ctk cS F9 N9 cl cL cP; have cP1 := PI.out cP; clear cP cS; obtain ⟨ct9, cV⟩ := cP1; subst cV) | (intro cv ch ctk cS F9 N9 cl cL cP; have cP1 := PB.out cP; clear cP cS; subst cP1))); all_goals ((try k_sweep); (try dsimp only); (try k_fold))))))) | fail) | ((with_reducible show wpAny _ _ (pyIter (Value.ref _)) _ _ _); k_dflt ((((rename News _ _ _ _ => lN'); (obtain ⟨l9, rfl, lN9⟩ := News.first lN'); refine' list_S [] (fun st : List Value × Nat => [(l9, W.listOf st.1.toArray st.2)]) (fun i st => st.1 = ws.take i ∧ st.1.length ≤ 3) ([], 0) rfl hw (by assumption) lN9 ⟨rfl, Nat.zero_le _⟩ (fun i' v' u' st' h' tk' I' oI' hv' hP' hoff' F' N' => ?_) (fun u' st' h' tk' hP' F' N' => ?_); (((refine foldG ?_; intro gk))); (obtain ⟨st1, st2⟩ := st'); (obtain ⟨hq1, hq2⟩ := hP'); (dsimp only at hq1 hq2 F' N' hoff'); (simp only [List.cons_append, List.nil_append] at N' hoff'); (obtain ⟨c9, t9, rfl, hc9, hm9⟩ := ints_item hwi hv'); (rcases hcs _ hm9 with rfl | rfl | rfl) <;> ((((first | k_unfold | (k_unmd; k_unfold) | skip); (try fail "nrm"); (try k_fold); (try (fail_if_success (fail_if_success (have bq : BnOn := by with_reducible assumption)); (try fail "bm"); (try fail "bn")))))))))) | walk1 | (dsimp only; walk1) | (leave1; try dsimp only) | (dsimp only) | fail "no step")
  iterate 3
    · rename News _ _ _ _ => N9; (try dsimp +zetaDelta only at N9)
      simp only [List.push_toArray] at N9
      refine' js_end ((st1 ++ [_], st2 + 1) : List Value × Nat) ?qzF ?qzN ?qzhI ?qzhn ?qzho ?qzhm ?qzhP
      case qzF => k_asm
      case qzN => exact N9
      case qzhI => k_mem
      case qzhn => lcg_sub
      case qzho => k_all
      case qzhm => ((intro z h1 h2; (try dsimp +zetaDelta only); (simp only [List.contains_cons, List.contains_nil, Bool.or_false, Bool.or_eq_false_iff, beq_eq_false_iff_ne, ne_eq] at h1 h2); (simp [h1, h2]; done)))
      case qzhP => exact ⟨by dsimp only; rw [hq1]; exact take_snoc hv', by dsimp only; rw [hq1, take_snoc hv', List.length_take, hwi.length]; omega⟩
  · ((refine hret _ _ _ (Fr.keep (by k_asm)) ?_))
    obtain ⟨st1, st2⟩ := st'
    obtain ⟨hq1, hq2⟩ := hP'
    dsimp only at hq1 N'
    rw [List.size_toArray, List.take_length] at hq1
    subst hq1
    exact ⟨l9, _, _, rfl, News.get N' (List.Mem.head _), hwi, by
      cases e : sh.get? l9 with
      | none => rfl
      | some o => have := N'.fresh (List.Mem.head _); rw [this] at e; cases e⟩
end
section
-- what a Parsing holds that no step turns
structure PP where
  h : Nat → Int
  t : Nat → Tok
  g : Nat → Int
  u : Nat → Tok
  X : Addr
  dP : Addr
  l : Addr
  fl : Addr
  f : Addr
  dF : Addr
  d : Addr
  nl : Addr
noncomputable abbrev PP.dict (P : PP) (i : Int) (ti : Tok) : Obj :=
  dictOf [⟨P.h 0, .str (Str.ofString "codes") (P.t 0), .ref P.l⟩, ⟨P.h 1, .str (Str.ofString "place") (P.t 1), .int i ti⟩, ⟨P.h 2, .str (Str.ofString "frames") (P.t 2), .ref P.fl⟩, ⟨P.h 3, .str (Str.ofString "groups") (P.t 3), .int 0 (P.t 4)⟩] 4
noncomputable abbrev PP.fdict (P : PP) (b : Bool) : Obj :=
  dictOf [⟨P.g 0, .str (Str.ofString "word") (P.u 0), .str (Str.ofString "top") (P.u 5)⟩, ⟨P.g 1, .str (Str.ofString "number") (P.u 1), .int 0 (P.u 6)⟩, ⟨P.g 2, .str (Str.ofString "done") (P.u 2), .ref P.d⟩, ⟨P.g 3, .str (Str.ofString "nodes") (P.u 3), .ref P.nl⟩, ⟨P.g 4, .str (Str.ofString "is_loose") (P.u 4), .bool b⟩] 5
noncomputable def PP.at (P : PP) (ws : List Value) (h : Heap) : Prop := h.get? P.X = some (instObj 328 P.dP) ∧ h.get? P.f = some (instObj 204 P.dF) ∧ (∃ n, h.get? P.fl = some (listOf #[.ref P.f] n)) ∧ h.IsList P.l ws.toArray
noncomputable def PSign (P : PP) (i : Int) (c : Int) (h h' : Heap) (v : Value) : Prop := (∃ t, v = .str ⟨#[c.toNat]⟩ t) ∧ ∃ ti, h'.get? P.dP = some (P.dict (i + 1) ti)
theorem item_atI {prog : Program} {w : World} {A : Around} {E : Value → Shared → Prop} {s : Shared} {value slice : Expr} {l : Addr} {vs : List Value} {k : Int} {i : Nat} {u : Tok} {v : Value} {Q : Value → Shared → Prop}
    (hl : s.heap.IsList l vs.toArray) (hk : k = i) (hhi : k ≤ 1000) (hx : vs[i]? = some v) (h : Q v s)
    (hs : subscripted slice false (.ref l) (.int k u) = operate [.ref l, .int k u] (getItem (.ref l) (.int k u)) := by with_unfolding_all rfl) :
    wpAny (model prog w) A (subscriptTail value slice (.ref l) (.int k u)) Q E s := by
  subst hk
  exact tail_any hl.typeIs slot_list_getitem.lookup (wpAny_getItem_list hl (by omega) (by omega) (by simpa using hx) h) hs
theorem sign_c (w : World) (P : PP) (ws : List Value) (cs : List Int) (hwi : IntsAre ws cs) (i : Nat) (ti tx : Tok) (c : Int) (hc : c = 66 ∨ c = 97 ∨ c = 98) (hx : ws[i]? = some (.int c tx)) (hws : cs.length ≤ 3) (hi : i < cs.length) :
    CtM Mine.kx.heap_1 w 236 (P.at ws) 2 40 [.ref P.X] [(P.dP, P.dict i ti)] (PSign P i c) := by
  ((first | (k_dflt (refine' CtM.mkP ?qk6 ?qk7 ?qk9 ?qkB ?qkz ?qc2 ?qc3 ?qc4 ?qc5 ?_; (((((case qk6 => k_is); (case qk7 => k_is); (case qk9 => rfl); (case qc2 => exact rfl); (case qc3 => exact rfl); (case qc4 => exact rfl))); (case qc5 => decide +kernel); (case qkB => exact locs rfl); (case qkz => dsimp only [List.map, List.zip, List.zipWith, List.reverse, List.reverseAux]; try exact rfl); k_whole))); intro p loose mean mg mb dp un gd env outer base sh sg sd so Q E hdp hu g₁ L₁ h₁ tk₁ mm nw F₁ N₁ B₁ X₁ T₁ G₁ lt₁ hp hret A₁ qk ek gk; have bo := BnOn.mk; have bd : Bnd mm := Bnd.mk; have bd : Bnd nw := Bnd.mk) | (k_dflt (refine' CtM.mkC ?qk6 ?qk7 ?qk9 ?qkB ?qkD ?qc2 ?qc3 ?qc4 ?_; (((((case qk6 => k_is); (case qk7 => k_is); (case qk9 => rfl); (case qc2 => exact rfl); (case qc3 => exact rfl); (case qc4 => exact rfl))); (case qkB => exact rfl); (case qkD => decide +kernel); k_whole))); intro p loose mean mg mb dp un gd env outer base sh sg sd so Q E hdp hu g₁ L₁ h₁ tk₁ cells₁ mm F₁ N₁ Y₁ B₁ X₁ T₁ G₁ lt₁ hp hret A₁ qk ek gk; have bo := BnOn.mk; have bd : Bnd mm := Bnd.mk; k_cells Y₁; (try simp only [List.cons_append, List.nil_append] at N₁); (try (fail "bn"; rename News _ _ _ _ => N₁)))))
  obtain ⟨hX, hf, ⟨nf, hfl⟩, hl⟩ := hp
  repeat' ((fail_if_success (with_reducible show Q _ _)); first | fail "unf" | (k_end; wrow_close) | ((with_reducible show wpAny _ _ (subscriptTail _ _ _ _) _ _ _); first | ((k_here; (with_reducible show wpAny _ _ (subscriptTail _ _ (Value.ref P.l) (Value.int _ _)) _ _ _); k_dflt (refine' item_atI (i := i) ?qk1 ?qk2 ?qk3 hx ?_ ?qk4; (case qk1 => is_list); (case qk2 => omega); (case qk3 => omega); (case qk4 => with_unfolding_all rfl); k_whole))) | fail) | ((with_reducible show wpAny _ _ (call (Value.builtin _) _) _ _ _); first | ((k_here; (with_reducible show wpAny _ _ (call (Value.builtin _) [Value.ref _, _]) _ _ _); k_dflt (refine' append_K ?qk1 ?qk2 ?qk3 ?_ ?qz; (case qk1 => k_asm); (case qk2 => k_asm); (case qk3 => k_upd); (case qz => ((rw [PySem.sizeLine_eq]); (simp only [List.size_toArray]); omega)); k_whole); intro h' F' N'; (try k_sweep))) | fail) | ((with_reducible show wpAny _ _ (call (Value.ref _) _) _ _ _); first | ((k_here; k_dflt ((fail "mine useP"); (case qzB => k_asm); (case qzF => k_asm); (case qzX => k_asm); (case qzN => k_asm); (case qzT => k_asm); (case qzK1 => first | exact rfl | assumption); (case qzK => first | exact rfl | assumption); (case qzp => first | trivial | (exact ViewIn.keeps (Fr.keep (by k_asm)) (by assumption))); (case qzd => ktr_room); (case qzu => ktr_units); (focus (((first | (intro cv ch ctk cS F9 N9 cl cL cP; have cP1 := PI.out cP; clear cP cS; obtain ⟨ct9, cV⟩ := cP1; subst cV) | (intro cv ch ctk cS F9 N9 cl cL cP; have cP1 := PB.out cP; clear cP cS; subst cP1))); all_goals ((try k_sweep); (try dsimp only); (try k_fold))))))) | fail) | walk1 | (dsimp only; walk1) | (leave1; try dsimp only) | (dsimp only) | fail "no step")
  ((refine hret _ _ _ _ (by k_asm) ?_))
  exact ⟨⟨_, rfl⟩, _, News.get (by k_asm) (by k_mem)⟩
theorem item_last {prog : Program} {w : World} {A : Around} {E : Value → Shared → Prop} {s : Shared} {value slice : Expr} {l : Addr} {v : Value} {u : Tok} {Q : Value → Shared → Prop}
    (hl : s.heap.IsList l #[v]) (h : Q v s)
    (hs : subscripted slice false (.ref l) (.int (-1) u) = operate [.ref l, .int (-1) u] (getItem (.ref l) (.int (-1) u)) := by with_unfolding_all rfl) :
    wpAny (model prog w) A (subscriptTail value slice (.ref l) (.int (-1) u)) Q E s :=
  tail_any hl.typeIs slot_list_getitem.lookup (wpAny_getItem_list_neg hl (by omega) (show -((1 : Nat) : Int) ≤ -1 by decide) (by decide) (by rfl) h) hs
-- the very value
noncomputable def PV (x : Value) (_ _ : Heap) (v : Value) : Prop := v = x
theorem top_c (w : World) (P : PP) (ws : List Value) (i : Int) (ti : Tok) :
    CtP Mine.kx.heap_1 w 229 (fun h => P.at ws h ∧ h.get? P.dP = some (P.dict i ti)) 2 40 [.ref P.X] (PV (.ref P.f)) := by
  ((first | (k_dflt (refine' CtP.mkP ?qk6 ?qk7 ?qk9 ?qkB ?qkz ?qc2 ?qc3 ?qc4 ?qc5 ?_; (((((case qk6 => k_is); (case qk7 => k_is); (case qk9 => rfl); (case qc2 => exact rfl); (case qc3 => exact rfl); (case qc4 => exact rfl))); (case qc5 => decide +kernel); (case qkB => exact locs rfl); (case qkz => dsimp only [List.map, List.zip, List.zipWith, List.reverse, List.reverseAux]; try exact rfl); k_whole))); intro p loose mean mg mb dp un gd env outer base sh sg sd so Q E hdp hu hp hret L₁ h₁ tk₁ mm F₁ N₁ B₁ X₁ T₁ A₁ qk ek gk; have bo := BnOn.mk; have bd : Bnd mm := Bnd.mk) | (k_dflt (refine' CtP.mkC ?qk6 ?qk7 ?qk9 ?qkB ?qkD ?qc2 ?qc3 ?qc4 ?_; (((((case qk6 => k_is); (case qk7 => k_is); (case qk9 => rfl); (case qc2 => exact rfl); (case qc3 => exact rfl); (case qc4 => exact rfl))); (case qkB => exact rfl); (case qkD => decide +kernel); k_whole))); intro p loose mean mg mb dp un gd env outer base sh sg sd so Q E hdp hu hp hret L₁ h₁ tk₁ cells₁ mm F₁ N₁ Y₁ B₁ X₁ T₁ A₁ qk ek gk; have bo := BnOn.mk; have bd : Bnd mm := Bnd.mk; k_cells Y₁; (try (fail "bn"; rename News _ _ _ _ => N₁)))))
  obtain ⟨⟨hX, hf, ⟨nf, hfl⟩, hl⟩, hdP⟩ := hp
  have hFL : sh.IsList P.fl #[.ref P.f] := ⟨_, hfl, rfl, nf, rfl⟩
  repeat' ((fail_if_success (with_reducible show Q _ _)); first | fail "unf" | (k_end; wrow_close) | ((with_reducible show wpAny _ _ (subscriptTail _ _ _ _) _ _ _); first | ((k_here; (with_reducible show wpAny _ _ (subscriptTail _ _ (Value.ref P.fl) (Value.int _ _)) _ _ _); k_dflt (refine' item_last ?qk1 ?_ ?qk4; (case qk1 => is_list); (case qk4 => with_unfolding_all rfl); k_whole))) | ((k_here; (with_reducible show wpAny _ _ (subscriptTail _ _ (Value.ref P.l) (Value.int _ _)) _ _ _); k_dflt (refine' item_atI (i := i) ?qk1 ?qk2 ?qk3 hx ?_ ?qk4; (case qk1 => is_list); (case qk2 => omega); (case qk3 => omega); (case qk4 => with_unfolding_all rfl); k_whole))) | fail) | ((with_reducible show wpAny _ _ (call (Value.builtin _) _) _ _ _); first | ((k_here; (with_reducible show wpAny _ _ (call (Value.builtin _) [Value.ref _, _]) _ _ _); k_dflt (refine' append_K ?qk1 ?qk2 ?qk3 ?_ ?qz; (case qk1 => k_asm); (case qk2 => k_asm); (case qk3 => k_upd); (case qz => ((rw [PySem.sizeLine_eq]); (simp only [List.size_toArray]); omega)); k_whole); intro h' F' N'; (try k_sweep))) | fail) | ((with_reducible show wpAny _ _ (call (Value.ref _) _) _ _ _); first | ((k_here; k_dflt ((fail "mine useP"); (case qzB => k_asm); (case qzF => k_asm); (case qzX => k_asm); (case qzN => k_asm); (case qzT => k_asm); (case qzK1 => first | exact rfl | assumption); (case qzK => first | exact rfl | assumption); (case qzp => first | trivial | (exact ViewIn.keeps (Fr.keep (by k_asm)) (by assumption))); (case qzd => ktr_room); (case qzu => ktr_units); (focus (((first | (intro cv ch ctk cS F9 N9 cl cL cP; have cP1 := PI.out cP; clear cP cS; obtain ⟨ct9, cV⟩ := cP1; subst cV) | (intro cv ch ctk cS F9 N9 cl cL cP; have cP1 := PB.out cP; clear cP cS; subst cP1))); all_goals ((try k_sweep); (try dsimp only); (try k_fold))))))) | fail) | walk1 | (dsimp only; walk1) | (leave1; try dsimp only) | (dsimp only) | fail "no step")
  ((refine hret _ _ _ (Fr.keep (by k_asm)) ?_))
  exact rfl
noncomputable def PPut (P : PP) (items : List Value) (x : Value) (_ h' : Heap) (v : Value) : Prop := v = .none ∧ h'.get? P.dF = some (P.fdict false) ∧ ∃ n, h'.get? P.nl = some (listOf (items ++ [x]).toArray n)
theorem put_c (w : World) (P : PP) (ws : List Value) (items : List Value) (x : Value) (n : Nat) (b : Bool) (hit : items.length ≤ 3) (hd1 : @Ne Nat P.dF P.nl) :
    CtM Mine.kx.heap_1 w 187 (P.at ws) 2 40 [.ref P.f, x] [(P.dF, P.fdict b), (P.nl, listOf items.toArray n)] (PPut P items x) := by
  ((first | (k_dflt (refine' CtM.mkP ?qk6 ?qk7 ?qk9 ?qkB ?qkz ?qc2 ?qc3 ?qc4 ?qc5 ?_; (((((case qk6 => k_is); (case qk7 => k_is); (case qk9 => rfl); (case qc2 => exact rfl); (case qc3 => exact rfl); (case qc4 => exact rfl))); (case qc5 => decide +kernel); (case qkB => exact locs rfl); (case qkz => dsimp only [List.map, List.zip, List.zipWith, List.reverse, List.reverseAux]; try exact rfl); k_whole))); intro p loose mean mg mb dp un gd env outer base sh sg sd so Q E hdp hu g₁ L₁ h₁ tk₁ mm nw F₁ N₁ B₁ X₁ T₁ G₁ lt₁ hp hret A₁ qk ek gk; have bo := BnOn.mk; have bd : Bnd mm := Bnd.mk; have bd : Bnd nw := Bnd.mk) | (k_dflt (refine' CtM.mkC ?qk6 ?qk7 ?qk9 ?qkB ?qkD ?qc2 ?qc3 ?qc4 ?_; (((((case qk6 => k_is); (case qk7 => k_is); (case qk9 => rfl); (case qc2 => exact rfl); (case qc3 => exact rfl); (case qc4 => exact rfl))); (case qkB => exact rfl); (case qkD => decide +kernel); k_whole))); intro p loose mean mg mb dp un gd env outer base sh sg sd so Q E hdp hu g₁ L₁ h₁ tk₁ cells₁ mm F₁ N₁ Y₁ B₁ X₁ T₁ G₁ lt₁ hp hret A₁ qk ek gk; have bo := BnOn.mk; have bd : Bnd mm := Bnd.mk; k_cells Y₁; (try simp only [List.cons_append, List.nil_append] at N₁); (try (fail "bn"; rename News _ _ _ _ => N₁)))))
  obtain ⟨hX, hf, ⟨nf, hfl⟩, hl⟩ := hp
  repeat' ((fail_if_success (with_reducible show Q _ _)); first | fail "unf" | (k_end; wrow_close) | ((with_reducible show wpAny _ _ (call (Value.builtin _) _) _ _ _); first | ((k_here; (with_reducible show wpAny _ _ (call (Value.builtin _) [Value.ref _, _]) _ _ _); k_dflt (refine' append_K ?qk1 ?qk2 ?qk3 ?_ ?qz; (case qk1 => k_asm); (case qk2 => k_asm); (case qk3 => k_upd); (case qz => ((rw [PySem.sizeLine_eq]); (simp only [List.size_toArray]); omega)); k_whole); intro h' F' N'; (try k_sweep))) | ((k_here; (with_reducible show wpAny _ _ (call (Value.builtin _) [Value.ref _, _]) _ _ _); k_dflt (refine' append_K ?qk1 ?qk2 ?qk3 ?_ ?qz; (case qk1 => k_asm); (case qk2 => k_asm); (case qk3 => k_upd); (case qz => ((rw [PySem.sizeLine_eq]); (simp only [List.size_toArray]); omega)); k_whole); intro h' F' N'; (try k_sweep))) | fail) | ((with_reducible show wpAny _ _ (subscriptTail _ _ _ _) _ _ _); first | ((k_here; (with_reducible show wpAny _ _ (subscriptTail _ _ (Value.ref P.fl) (Value.int _ _)) _ _ _); k_dflt (refine' item_last ?qk1 ?_ ?qk4; (case qk1 => is_list); (case qk4 => with_unfolding_all rfl); k_whole))) | ((k_here; (with_reducible show wpAny _ _ (subscriptTail _ _ (Value.ref P.l) (Value.int _ _)) _ _ _); k_dflt (refine' item_atI (i := i) ?qk1 ?qk2 ?qk3 hx ?_ ?qk4; (case qk1 => is_list); (case qk2 => omega); (case qk3 => omega); (case qk4 => with_unfolding_all rfl); k_whole))) | fail) | ((with_reducible show wpAny _ _ (call (Value.ref _) _) _ _ _); first | ((k_here; k_dflt ((fail "mine useP"); (case qzB => k_asm); (case qzF => k_asm); (case qzX => k_asm); (case qzN => k_asm); (case qzT => k_asm); (case qzK1 => first | exact rfl | assumption); (case qzK => first | exact rfl | assumption); (case qzp => first | trivial | (exact ViewIn.keeps (Fr.keep (by k_asm)) (by assumption))); (case qzd => ktr_room); (case qzu => ktr_units); (focus (((first | (intro cv ch ctk cS F9 N9 cl cL cP; have cP1 := PI.out cP; clear cP cS; obtain ⟨ct9, cV⟩ := cP1; subst cV) | (intro cv ch ctk cS F9 N9 cl cL cP; have cP1 := PB.out cP; clear cP cS; subst cP1))); all_goals ((try k_sweep); (try dsimp only); (try k_fold))))))) | fail) | walk1 | (dsimp only; walk1) | (leave1; try dsimp only) | (dsimp only) | fail "no step")
  ((refine hret _ _ _ _ (by k_asm) ?_))
  rename News _ _ _ _ => N9; (try dsimp +zetaDelta only at N9)
  simp only [List.push_toArray] at N9
  exact ⟨rfl, News.get N9 (by k_mem), _, News.get N9 (by k_mem)⟩
theorem PP.at.keeps {P : PP} {ws : List Value} {h h' : Heap} (k : h.StaysIn h') (a : P.at ws h) : P.at ws h' := ⟨k _ _ a.1, k _ _ a.2.1, ⟨_, k _ _ a.2.2.1.choose_spec⟩, stays_list k a.2.2.2⟩
theorem PV.out {x v : Value} {h h' : Heap} (p : PV x h h' v) : v = x := p
theorem PSign.out {P : PP} {i c : Int} {h h' : Heap} {v : Value} (p : PSign P i c h h' v) : (∃ t, v = .str ⟨#[c.toNat]⟩ t) ∧ ∃ ti, h'.get? P.dP = some (P.dict (i + 1) ti) := p
theorem PPut.out {P : PP} {items : List Value} {x : Value} {h h' : Heap} {v : Value} (p : PPut P items x h h' v) : v = .none ∧ h'.get? P.dF = some (P.fdict false) ∧ ∃ n, h'.get? P.nl = some (listOf (items ++ [x]).toArray n) := p
noncomputable def PStep (P : PP) (i : Int) (items : List Value) (c : Int) (h h' : Heap) (v : Value) : Prop :=
  v = .none ∧ ∃ (ti tr tc : Tok) (t : Addr) (n n2 : Nat), h'.get? P.dP = some (P.dict (i + 1) ti) ∧ h'.get? P.dF = some (P.fdict false) ∧ h'.get? P.nl = some (listOf (items ++ [Value.ref t]).toArray n) ∧
    h'.get? t = some (tupOf #[.str (Str.ofString "char") tr, .int c tc] n2) ∧ h.get? t = none
theorem step_c (w : World) (P : PP) (ws : List Value) (cs : List Int) (hwi : IntsAre ws cs) (i : Nat) (ti tx : Tok) (c : Int) (items : List Value) (n : Nat) (b : Bool) (hc : c = 66 ∨ c = 97 ∨ c = 98) (hx : ws[i]? = some (.int c tx)) (hws : cs.length ≤ 3) (hit : items.length ≤ 3) (hi : i < cs.length) (hd1 : @Ne Nat P.dF P.nl) (hd2 : @Ne Nat P.dP P.dF) (hd3 : @Ne Nat P.dP P.nl) :
    CtM Mine.kx.heap_1 w 250 (P.at ws) 5 200 [.ref P.X] [(P.dP, P.dict i ti), (P.dF, P.fdict b), (P.nl, listOf items.toArray n)] (PStep P i items c) := by
  ((first | (k_dflt (refine' CtM.mkP ?qk6 ?qk7 ?qk9 ?qkB ?qkz ?qc2 ?qc3 ?qc4 ?qc5 ?_; (((((case qk6 => k_is); (case qk7 => k_is); (case qk9 => rfl); (case qc2 => exact rfl); (case qc3 => exact rfl); (case qc4 => exact rfl))); (case qc5 => decide +kernel); (case qkB => exact locs rfl); (case qkz => dsimp only [List.map, List.zip, List.zipWith, List.reverse, List.reverseAux]; try exact rfl); k_whole))); intro p loose mean mg mb dp un gd env outer base sh sg sd so Q E hdp hu g₁ L₁ h₁ tk₁ mm nw F₁ N₁ B₁ X₁ T₁ G₁ lt₁ hp hret A₁ qk ek gk; have bo := BnOn.mk; have bd : Bnd mm := Bnd.mk; have bd : Bnd nw := Bnd.mk) | (k_dflt (refine' CtM.mkC ?qk6 ?qk7 ?qk9 ?qkB ?qkD ?qc2 ?qc3 ?qc4 ?_; (((((case qk6 => k_is); (case qk7 => k_is); (case qk9 => rfl); (case qc2 => exact rfl); (case qc3 => exact rfl); (case qc4 => exact rfl))); (case qkB => exact rfl); (case qkD => decide +kernel); k_whole))); intro p loose mean mg mb dp un gd env outer base sh sg sd so Q E hdp hu g₁ L₁ h₁ tk₁ cells₁ mm F₁ N₁ Y₁ B₁ X₁ T₁ G₁ lt₁ hp hret A₁ qk ek gk; have bo := BnOn.mk; have bd : Bnd mm := Bnd.mk; k_cells Y₁; (try simp only [List.cons_append, List.nil_append] at N₁); (try (fail "bn"; rename News _ _ _ _ => N₁)))))
  have hP : P.at ws g₁ := hp
  obtain ⟨hX, hf, ⟨nf, hfl⟩, hl⟩ := hp
  repeat' ((fail_if_success (with_reducible show Q _ _)); first | fail "unf" | (k_end; wrow_close) | ((with_reducible show @ite _ _ _ _ _); first | (first | refine iteF ?_ (by first | (rcases hc with rfl | rfl | rfl <;> decide +kernel) | fail) | refine iteT ?_ (by first | (rcases hc with rfl | rfl | rfl <;> decide +kernel) | fail) | fail) | fail) | ((with_reducible show wpAny _ _ (call (Value.builtin _) _) _ _ _); first | ((k_here; (with_reducible show wpAny _ _ (call (Value.builtin _) [Value.ref _, _]) _ _ _); k_dflt (refine' append_K ?qk1 ?qk2 ?qk3 ?_ ?qz; (case qk1 => k_asm); (case qk2 => k_asm); (case qk3 => k_upd); (case qz => ((rw [PySem.sizeLine_eq]); (simp only [List.size_toArray]); omega)); k_whole); intro h' F' N'; (try k_sweep))) | ((k_here; (with_reducible show wpAny _ _ (call (Value.builtin _) [Value.ref _, _]) _ _ _); k_dflt (refine' append_K ?qk1 ?qk2 ?qk3 ?_ ?qz; (case qk1 => k_asm); (case qk2 => k_asm); (case qk3 => k_upd); (case qz => ((rw [PySem.sizeLine_eq]); (simp only [List.size_toArray]); omega)); k_whole); intro h' F' N'; (try k_sweep))) | fail) | ((with_reducible show wpAny _ _ (subscriptTail _ _ _ _) _ _ _); first | ((k_here; (with_reducible show wpAny _ _ (subscriptTail _ _ (Value.ref P.fl) (Value.int _ _)) _ _ _); k_dflt (refine' item_last ?qk1 ?_ ?qk4; (case qk1 => is_list); (case qk4 => with_unfolding_all rfl); k_whole))) | ((k_here; (with_reducible show wpAny _ _ (subscriptTail _ _ (Value.ref P.l) (Value.int _ _)) _ _ _); k_dflt (refine' item_atI (i := i) ?qk1 ?qk2 ?qk3 hx ?_ ?qk4; (case qk1 => is_list); (case qk2 => omega); (case qk3 => omega); (case qk4 => with_unfolding_all rfl); k_whole))) | fail) | ((with_reducible show wpAny _ _ (call (Value.ref _) _) _ _ _); first | ((k_here; k_dflt ((((fail "fq"; refine' CtP.use (top_c w P ws _ _) ?qzB ?qzF ?qzX ?qzN ?qzT ?qzK1 ?qzK ?qzp ?qzd ?qzu ?_))); (case qzB => k_asm); (case qzF => k_asm); (case qzX => k_asm); (case qzN => k_asm); (case qzT => k_asm); (case qzK1 => first | exact rfl | assumption); (case qzK => first | exact rfl | assumption); (case qzp => first | trivial | (first | (exact ⟨hP.keeps (Fr.keep (by k_asm)), News.get (by k_asm) (by k_mem)⟩) | (exact ViewIn.keeps (Fr.keep (by k_asm)) (by assumption)))); (case qzd => ktr_room); (case qzu => ktr_units); (focus (((first | ((intro cv ch ctk cS F9 N9 cl cL cP; have cP1 := PV.out cP; clear cP cS cl cL; subst cP1)) | (first | (intro cv ch ctk cS F9 N9 cl cL cP; have cP1 := PI.out cP; clear cP cS; obtain ⟨ct9, cV⟩ := cP1; subst cV) | (intro cv ch ctk cS F9 N9 cl cL cP; have cP1 := PB.out cP; clear cP cS; subst cP1)))); all_goals ((try k_sweep); (try dsimp only); (try k_fold))))))) | ((k_here; k_dflt (((first | (fail "fq"; refine' CtM.useR (sign_c w P ws cs hwi i _ tx c hc hx hws hi) ?qzB ?qzF ?qzX ?qzN ?qzT ?qzK1 ?qzK ?qzR ?qzp ?qzd ?qzu ?_) | (fail "fq"; refine' CtM.useR (put_c w P ws items _ _ _ hit hd1) ?qzB ?qzF ?qzX ?qzN ?qzT ?qzK1 ?qzK ?qzR ?qzp ?qzd ?qzu ?_))); (case qzB => k_asm); (case qzF => k_asm); (case qzX => k_asm); (case qzN => k_asm); (case qzT => k_asm); (case qzK1 => first | exact rfl | assumption); (case qzK => first | exact rfl | assumption); (case qzR => fail "mine rems"); (try (case qs1 => omega)); (case qzp => first | exact fun _ _ => trivial | ((intro g2 G2 S2; exact hP.keeps S2))); (case qzd => ktr_room); (case qzu => ktr_units); (focus (((first | (intro cv ch ctk cG F9 N9 cO cP; obtain ⟨⟨t9, cV⟩, ti9, cD⟩ := PSign.out cP; replace N9 := news_put N9 cD (cO _ (List.Mem.head _)); clear cG cO cD cP; subst cV) | (intro cv ch ctk cG F9 N9 cO cP; obtain ⟨cV, cD, n9, cE⟩ := PPut.out cP; replace N9 := news_put (news_put N9 cE (cO _ (List.Mem.tail _ (List.Mem.head _)))) cD (cO _ (List.Mem.head _)); clear cG cO cD cE cP; subst cV))); all_goals ((try k_sweep); (try dsimp only); (try k_fold))))))) | fail) | walk1 | (dsimp only; walk1) | (leave1; try dsimp only) | (dsimp only) | fail "no step")
  ((refine hret _ _ _ _ (by k_asm) ?_))
  have ec : ((c.toNat : Nat) : Int) = c := by omega
  rename News _ _ _ _ => N9; dsimp +zetaDelta only at N9
  rw [ec] at N9
  have ht := N9.get (List.Mem.tail _ (List.Mem.tail _ (List.Mem.head _)))
  have hf := gfresh G₁ N9 (List.Mem.tail _ (List.Mem.tail _ (List.Mem.head _))) (by simp; exact ⟨by k_ne, by k_ne, by k_ne⟩)
  exact ⟨rfl, ti9, _, _, _, n9, _, News.get N9 (List.Mem.tail _ (List.Mem.tail _ (List.Mem.tail _ (List.Mem.head _)))), News.get N9 (List.Mem.head _), News.get N9 (List.Mem.tail _ (List.Mem.head _)), ht, hf⟩
end
section
theorem len_v {prog : Program} {w : World} {A : Around} {E : Value → Shared → Prop} {s : Shared} {l : Addr} {vs : List Value} {Q : Value → Shared → Prop} (hl : s.heap.IsList l vs.toArray) (hz : vs.length ≤ 1000000)
    (h : Q (.int vs.length (s.toks + 1)) { s with toks := s.toks + 1 + 1 }) : wpAny (model prog w) A (call (.builtin "len") [.ref l]) Q E s := by
  refine len_list hl (by simp; omega) ?_
  rw [List.size_toArray]; exact h
theorem joined1_c (w : World) (nl : Addr) (x : Value) (n : Nat) :
    CtP Mine.kx.heap_1 w 166 (fun h => h.get? nl = some (listOf #[x] n)) 1 60 [.ref nl] (PV x) := by
  ((first | (k_dflt (refine' CtP.mkP ?qk6 ?qk7 ?qk9 ?qkB ?qkz ?qc2 ?qc3 ?qc4 ?qc5 ?_; (((((case qk6 => k_is); (case qk7 => k_is); (case qk9 => rfl); (case qc2 => exact rfl); (case qc3 => exact rfl); (case qc4 => exact rfl))); (case qc5 => decide +kernel); (case qkB => exact locs rfl); (case qkz => dsimp only [List.map, List.zip, List.zipWith, List.reverse, List.reverseAux]; try exact rfl); k_whole))); intro p loose mean mg mb dp un gd env outer base sh sg sd so Q E hdp hu hp hret L₁ h₁ tk₁ mm F₁ N₁ B₁ X₁ T₁ A₁ qk ek gk; have bo := BnOn.mk; have bd : Bnd mm := Bnd.mk) | (k_dflt (refine' CtP.mkC ?qk6 ?qk7 ?qk9 ?qkB ?qkD ?qc2 ?qc3 ?qc4 ?_; (((((case qk6 => k_is); (case qk7 => k_is); (case qk9 => rfl); (case qc2 => exact rfl); (case qc3 => exact rfl); (case qc4 => exact rfl))); (case qkB => exact rfl); (case qkD => decide +kernel); k_whole))); intro p loose mean mg mb dp un gd env outer base sh sg sd so Q E hdp hu hp hret L₁ h₁ tk₁ cells₁ mm F₁ N₁ Y₁ B₁ X₁ T₁ A₁ qk ek gk; have bo := BnOn.mk; have bd : Bnd mm := Bnd.mk; k_cells Y₁; (try (fail "bn"; rename News _ _ _ _ => N₁)))))
  have hl : sh.IsList nl [x].toArray := ⟨_, hp, rfl, n, rfl⟩
  repeat' ((fail_if_success (with_reducible show Q _ _)); first | fail "unf" | (k_end; wrow_close) | ((with_reducible show @ite _ _ _ _ _); first | (first | refine iteT ?_ (by first | (simp; done) | fail) | refine iteF ?_ (by first | (simp; omega) | fail) | fail) | fail) | ((with_reducible show wpAny _ _ (call (Value.builtin _) _) _ _ _); first | ((k_here; (with_reducible show wpAny _ _ (call (Value.builtin "len") [Value.ref _]) _ _ _); k_dflt (refine' len_v ?qm ?qz ?_; (case qm => is_list); (case qz => first | omega | (simp only [List.length_cons, List.length_nil]; omega))))) | fail) | ((with_reducible show wpAny _ _ (call (Value.ref _) _) _ _ _); first | ((k_here; k_dflt ((fail "mine useP"); (case qzB => k_asm); (case qzF => k_asm); (case qzX => k_asm); (case qzN => k_asm); (case qzT => k_asm); (case qzK1 => first | exact rfl | assumption); (case qzK => first | exact rfl | assumption); (case qzp => first | trivial | (exact ViewIn.keeps (Fr.keep (by k_asm)) (by assumption))); (case qzd => ktr_room); (case qzu => ktr_units); (focus (((first | (intro cv ch ctk cS F9 N9 cl cL cP; have cP1 := PI.out cP; clear cP cS; obtain ⟨ct9, cV⟩ := cP1; subst cV) | (intro cv ch ctk cS F9 N9 cl cL cP; have cP1 := PB.out cP; clear cP cS; subst cP1))); all_goals ((try k_sweep); (try dsimp only); (try k_fold))))))) | fail) | walk1 | (dsimp only; walk1) | (leave1; try dsimp only) | (dsimp only) | fail "no step")
  ((refine hret _ _ _ (Fr.keep (by k_asm)) ?_))
  exact rfl
-- a 'seq' node of the items
noncomputable def PSeq (items : List Value) (h h' : Heap) (v : Value) : Prop := ∃ (t tt : Addr) (ts : Tok) (n1 n2 : Nat), v = .ref t ∧ h'.get? t = some (tupOf #[.str (Str.ofString "seq") ts, .ref tt] n1) ∧ h'.get? tt = some (tupOf items.toArray n2) ∧ h.get? t = none ∧ h.get? tt = none ∧ @Ne Nat t tt
theorem nfresh {h h' : Heap} {L x : Addr} {o : Obj} {news : List (Addr × Obj)} (N : News h L h' news) (hm : (x, o) ∈ news) : h.get? x = none := by
  cases e : h.get? x with
  | none => rfl
  | some o' => have := N.fresh hm; rw [this] at e; cases e
theorem joined_c (w : World) (nl : Addr) (items : List Value) (n : Nat) (hit : items.length ≤ 3) (h1 : items.length ≠ 1) :
    CtP Mine.kx.heap_1 w 166 (fun h => h.get? nl = some (listOf items.toArray n)) 1 60 [.ref nl] (PSeq items) := by
  ((first | (k_dflt (refine' CtP.mkP ?qk6 ?qk7 ?qk9 ?qkB ?qkz ?qc2 ?qc3 ?qc4 ?qc5 ?_; (((((case qk6 => k_is); (case qk7 => k_is); (case qk9 => rfl); (case qc2 => exact rfl); (case qc3 => exact rfl); (case qc4 => exact rfl))); (case qc5 => decide +kernel); (case qkB => exact locs rfl); (case qkz => dsimp only [List.map, List.zip, List.zipWith, List.reverse, List.reverseAux]; try exact rfl); k_whole))); intro p loose mean mg mb dp un gd env outer base sh sg sd so Q E hdp hu hp hret L₁ h₁ tk₁ mm F₁ N₁ B₁ X₁ T₁ A₁ qk ek gk; have bo := BnOn.mk; have bd : Bnd mm := Bnd.mk) | (k_dflt (refine' CtP.mkC ?qk6 ?qk7 ?qk9 ?qkB ?qkD ?qc2 ?qc3 ?qc4 ?_; (((((case qk6 => k_is); (case qk7 => k_is); (case qk9 => rfl); (case qc2 => exact rfl); (case qc3 => exact rfl); (case qc4 => exact rfl))); (case qkB => exact rfl); (case qkD => decide +kernel); k_whole))); intro p loose mean mg mb dp un gd env outer base sh sg sd so Q E hdp hu hp hret L₁ h₁ tk₁ cells₁ mm F₁ N₁ Y₁ B₁ X₁ T₁ A₁ qk ek gk; have bo := BnOn.mk; have bd : Bnd mm := Bnd.mk; k_cells Y₁; (try (fail "bn"; rename News _ _ _ _ => N₁)))))
  have hl : sh.IsList nl items.toArray := ⟨_, hp, rfl, n, rfl⟩
  repeat' ((fail_if_success (with_reducible show Q _ _)); first | fail "unf" | (k_end; wrow_close) | ((with_reducible show @ite _ _ _ _ _); first | (first | refine iteT ?_ (by first | (simp; done) | fail) | refine iteF ?_ (by first | (simp; omega) | fail) | fail) | fail) | ((with_reducible show wpAny _ _ (call (Value.builtin _) _) _ _ _); first | ((k_here; (with_reducible show wpAny _ _ (call (Value.builtin "len") [Value.ref _]) _ _ _); k_dflt (refine' len_v ?qm ?qz ?_; (case qm => is_list); (case qz => first | omega | (simp only [List.length_cons, List.length_nil]; omega))))) | fail) | ((with_reducible show wpAny _ _ (call (Value.ref _) _) _ _ _); first | ((k_here; k_dflt ((fail "mine useP"); (case qzB => k_asm); (case qzF => k_asm); (case qzX => k_asm); (case qzN => k_asm); (case qzT => k_asm); (case qzK1 => first | exact rfl | assumption); (case qzK => first | exact rfl | assumption); (case qzp => first | trivial | (exact ViewIn.keeps (Fr.keep (by k_asm)) (by assumption))); (case qzd => ktr_room); (case qzu => ktr_units); (focus (((first | (intro cv ch ctk cS F9 N9 cl cL cP; have cP1 := PI.out cP; clear cP cS; obtain ⟨ct9, cV⟩ := cP1; subst cV) | (intro cv ch ctk cS F9 N9 cl cL cP; have cP1 := PB.out cP; clear cP cS; subst cP1))); all_goals ((try k_sweep); (try dsimp only); (try k_fold))))))) | fail) | walk1 | (dsimp only; walk1) | (leave1; try dsimp only) | (dsimp only) | fail "no step")
  · ((refine hret _ _ _ (Fr.keep (by k_asm)) ?_))
    rename News _ _ _ _ => N9; rename AllLt _ _ => l9; (try dsimp +zetaDelta only at N9)
    exact ⟨_, _, _, _, _, rfl, N9.get (List.Mem.head _), N9.get (List.Mem.tail _ (List.Mem.head _)), nfresh N9 (List.Mem.head _), nfresh N9 (List.Mem.tail _ (List.Mem.head _)), Ne.symm (AllLt.ne l9 (List.Mem.head _))⟩
theorem PSeq.out {items : List Value} {h h' : Heap} {v : Value} (p : PSeq items h h' v) : PSeq items h h' v := p
theorem node1_c (w : World) (P : PP) (ws : List Value) (x : Value) (n nd : Nat) (b : Bool) :
    CtP Mine.kx.heap_1 w 201 (fun h => P.at ws h ∧ h.get? P.dF = some (P.fdict b) ∧ h.get? P.d = some (listOf #[] nd) ∧ h.get? P.nl = some (listOf #[x] n)) 2 80 [.ref P.f] (PV x) := by
  ((first | (k_dflt (refine' CtP.mkP ?qk6 ?qk7 ?qk9 ?qkB ?qkz ?qc2 ?qc3 ?qc4 ?qc5 ?_; (((((case qk6 => k_is); (case qk7 => k_is); (case qk9 => rfl); (case qc2 => exact rfl); (case qc3 => exact rfl); (case qc4 => exact rfl))); (case qc5 => decide +kernel); (case qkB => exact locs rfl); (case qkz => dsimp only [List.map, List.zip, List.zipWith, List.reverse, List.reverseAux]; try exact rfl); k_whole))); intro p loose mean mg mb dp un gd env outer base sh sg sd so Q E hdp hu hp hret L₁ h₁ tk₁ mm F₁ N₁ B₁ X₁ T₁ A₁ qk ek gk; have bo := BnOn.mk; have bd : Bnd mm := Bnd.mk) | (k_dflt (refine' CtP.mkC ?qk6 ?qk7 ?qk9 ?qkB ?qkD ?qc2 ?qc3 ?qc4 ?_; (((((case qk6 => k_is); (case qk7 => k_is); (case qk9 => rfl); (case qc2 => exact rfl); (case qc3 => exact rfl); (case qc4 => exact rfl))); (case qkB => exact rfl); (case qkD => decide +kernel); k_whole))); intro p loose mean mg mb dp un gd env outer base sh sg sd so Q E hdp hu hp hret L₁ h₁ tk₁ cells₁ mm F₁ N₁ Y₁ B₁ X₁ T₁ A₁ qk ek gk; have bo := BnOn.mk; have bd : Bnd mm := Bnd.mk; k_cells Y₁; (try (fail "bn"; rename News _ _ _ _ => N₁)))))
  obtain ⟨⟨hX, hf, ⟨nf, hfl⟩, hl⟩, hF, hd, hnl⟩ := hp
  have hdl : sh.IsList P.d ([] : List Value).toArray := ⟨_, hd, rfl, nd, rfl⟩
  have hdi : IntsAre [] [] := IntsAre.nil
  repeat' ((fail_if_success (with_reducible show Q _ _)); first | fail "unf" | (k_end; wrow_close) | ((with_reducible show @ite _ _ _ _ _); first | (first | refine iteT ?_ (by first | (simp; done) | fail) | refine iteF ?_ (by first | (simp; omega) | fail) | fail) | fail) | ((with_reducible show wpAny _ _ (call (Value.builtin _) _) _ _ _); first | ((k_here; (with_reducible show wpAny _ _ (call (Value.builtin "len") [Value.ref _]) _ _ _); k_dflt (refine' len_v ?qm ?qz ?_; (case qm => is_list); (case qz => first | omega | (simp only [List.length_cons, List.length_nil]; omega))))) | fail) | ((with_reducible show wpAny _ _ (call (Value.ref _) _) _ _ _); first | ((k_here; k_dflt ((((fail "fq"; refine' CtP.use ?qzC ?qzB ?qzF ?qzX ?qzN ?qzT ?qzK1 ?qzK ?qzp ?qzd ?qzu ?_; (case qzC => (exact joined1_c w P.nl x n))))); (case qzB => k_asm); (case qzF => k_asm); (case qzX => k_asm); (case qzN => k_asm); (case qzT => k_asm); (case qzK1 => first | exact rfl | assumption); (case qzK => first | exact rfl | assumption); (case qzp => first | trivial | (first | (exact Fr.keep (by k_asm) _ _ hnl) | (exact ViewIn.keeps (Fr.keep (by k_asm)) (by assumption)))); (case qzd => ktr_room); (case qzu => ktr_units); (focus (((first | ((intro cv ch ctk cS F9 N9 cl cL cP; have cP1 := PV.out cP; clear cP cS cl cL; subst cP1)) | (first | (intro cv ch ctk cS F9 N9 cl cL cP; have cP1 := PI.out cP; clear cP cS; obtain ⟨ct9, cV⟩ := cP1; subst cV) | (intro cv ch ctk cS F9 N9 cl cL cP; have cP1 := PB.out cP; clear cP cS; subst cP1)))); all_goals ((try k_sweep); (try dsimp only); (try k_fold))))))) | fail) | walk1 | (dsimp only; walk1) | (leave1; try dsimp only) | (dsimp only) | fail "no step")
  ((refine hret _ _ _ (Fr.keep (by k_asm)) ?_))
  exact rfl
theorem none_back {h h' : Heap} {x : Addr} (k : h.StaysIn h') (e : h'.get? x = none) : h.get? x = none := by
  cases q : h.get? x with
  | none => rfl
  | some o => rw [k _ _ q] at e; cases e
theorem PSeq.back {items : List Value} {g h h' : Heap} {v : Value} (k : g.StaysIn h) (p : PSeq items h h' v) : PSeq items g h' v := by
  obtain ⟨t, tt, ts, n1, n2, a, b, c, d, e, f⟩ := p
  exact ⟨t, tt, ts, n1, n2, a, b, c, none_back k d, none_back k e, f⟩
theorem node_c (w : World) (P : PP) (ws : List Value) (items : List Value) (n nd : Nat) (b : Bool) (hit : items.length ≤ 3) (h1 : items.length ≠ 1) :
    CtP Mine.kx.heap_1 w 201 (fun h => P.at ws h ∧ h.get? P.dF = some (P.fdict b) ∧ h.get? P.d = some (listOf #[] nd) ∧ h.get? P.nl = some (listOf items.toArray n)) 2 80 [.ref P.f] (PSeq items) := by
  ((first | (k_dflt (refine' CtP.mkP ?qk6 ?qk7 ?qk9 ?qkB ?qkz ?qc2 ?qc3 ?qc4 ?qc5 ?_; (((((case qk6 => k_is); (case qk7 => k_is); (case qk9 => rfl); (case qc2 => exact rfl); (case qc3 => exact rfl); (case qc4 => exact rfl))); (case qc5 => decide +kernel); (case qkB => exact locs rfl); (case qkz => dsimp only [List.map, List.zip, List.zipWith, List.reverse, List.reverseAux]; try exact rfl); k_whole))); intro p loose mean mg mb dp un gd env outer base sh sg sd so Q E hdp hu hp hret L₁ h₁ tk₁ mm F₁ N₁ B₁ X₁ T₁ A₁ qk ek gk; have bo := BnOn.mk; have bd : Bnd mm := Bnd.mk) | (k_dflt (refine' CtP.mkC ?qk6 ?qk7 ?qk9 ?qkB ?qkD ?qc2 ?qc3 ?qc4 ?_; (((((case qk6 => k_is); (case qk7 => k_is); (case qk9 => rfl); (case qc2 => exact rfl); (case qc3 => exact rfl); (case qc4 => exact rfl))); (case qkB => exact rfl); (case qkD => decide +kernel); k_whole))); intro p loose mean mg mb dp un gd env outer base sh sg sd so Q E hdp hu hp hret L₁ h₁ tk₁ cells₁ mm F₁ N₁ Y₁ B₁ X₁ T₁ A₁ qk ek gk; have bo := BnOn.mk; have bd : Bnd mm := Bnd.mk; k_cells Y₁; (try (fail "bn"; rename News _ _ _ _ => N₁)))))
  obtain ⟨⟨hX, hf, ⟨nf, hfl⟩, hl⟩, hF, hd, hnl⟩ := hp
  have hdl : sh.IsList P.d ([] : List Value).toArray := ⟨_, hd, rfl, nd, rfl⟩
  have hdi : IntsAre [] [] := IntsAre.nil
  repeat' ((fail_if_success (with_reducible show Q _ _)); first | fail "unf" | (k_end; wrow_close) | ((with_reducible show @ite _ _ _ _ _); first | (first | refine iteT ?_ (by first | (simp; done) | fail) | refine iteF ?_ (by first | (simp; omega) | fail) | fail) | fail) | ((with_reducible show wpAny _ _ (call (Value.builtin _) _) _ _ _); first | ((k_here; (with_reducible show wpAny _ _ (call (Value.builtin "len") [Value.ref _]) _ _ _); k_dflt (refine' len_v ?qm ?qz ?_; (case qm => is_list); (case qz => first | omega | (simp only [List.length_cons, List.length_nil]; omega))))) | fail) | ((with_reducible show wpAny _ _ (call (Value.ref _) _) _ _ _); first | ((k_here; k_dflt ((((fail "fq"; refine' CtP.use ?qzC ?qzB ?qzF ?qzX ?qzN ?qzT ?qzK1 ?qzK ?qzp ?qzd ?qzu ?_; (case qzC => (first | (exact joined_c w P.nl items n hit h1) | (exact joined1_c w P.nl x n)))))); (case qzB => k_asm); (case qzF => k_asm); (case qzX => k_asm); (case qzN => k_asm); (case qzT => k_asm); (case qzK1 => first | exact rfl | assumption); (case qzK => first | exact rfl | assumption); (case qzp => first | trivial | (first | (exact Fr.keep (by k_asm) _ _ hnl) | (exact ViewIn.keeps (Fr.keep (by k_asm)) (by assumption)))); (case qzd => ktr_room); (case qzu => ktr_units); (focus (((first | ((intro cv ch ctk cS F9 N9 cl cL cP; have cP1 := PSeq.out cP; have cP2 := PSeq.back (Fr.keep (by k_asm)) cP1; clear cP cP1 cS cl cL)) | ((intro cv ch ctk cS F9 N9 cl cL cP; have cP1 := PV.out cP; clear cP cS cl cL; subst cP1)) | (first | (intro cv ch ctk cS F9 N9 cl cL cP; have cP1 := PI.out cP; clear cP cS; obtain ⟨ct9, cV⟩ := cP1; subst cV) | (intro cv ch ctk cS F9 N9 cl cL cP; have cP1 := PB.out cP; clear cP cS; subst cP1)))); all_goals ((try k_sweep); (try dsimp only); (try k_fold))))))) | fail) | walk1 | (dsimp only; walk1) | (leave1; try dsimp only) | (dsimp only) | fail "no step")
  ((refine hret _ _ _ (Fr.keep (by k_asm)) ?_))
  assumption
end
section
-- the places of a part, as the law's own list gives them
noncomputable def standsL (T P : Str) : List Int :=
  List.foldl (fun l' k' => if (Txt.slice T (some k') (some (k' + (P.length : Int)))).length ≤ T.length ∧ Txt.slice T (some k') (some (k' + (P.length : Int))) = P then l' ++ [k']
    else if (Txt.slice T (some k') (some (k' + (P.length : Int)))).length ≤ T.length ∧ ¬Txt.slice T (some k') (some (k' + (P.length : Int))) = P then l' else l') [] (rangeKs 0 ((T.length : Int) - (P.length : Int) + 1 - 0).toNat)
noncomputable def stands (T P : Str) (folds : Bool) : List Int := if folds = true then standsL (Txt.lower T) (Txt.lower P) else standsL T P
theorem stands_c (w : World) (T P : Str) (t1 t2 : Tok) (folds : Bool) (hT : T.length ≤ 9) (hP : P.length ≤ 3) :
    CtP Mine.kx.heap_1 w 811 NoPre 4 400 [.str T t1, .str P t2, .bool folds] (PInts (stands T P folds)) := by
  ((first | (k_dflt (refine' CtP.mkP ?qk6 ?qk7 ?qk9 ?qkB ?qkz ?qc2 ?qc3 ?qc4 ?qc5 ?_; (((((case qk6 => k_is); (case qk7 => k_is); (case qk9 => rfl); (case qc2 => exact rfl); (case qc3 => exact rfl); (case qc4 => exact rfl))); (case qc5 => decide +kernel); (case qkB => exact locs rfl); (case qkz => dsimp only [List.map, List.zip, List.zipWith, List.reverse, List.reverseAux]; try exact rfl); k_whole))); intro p loose mean mg mb dp un gd env outer base sh sg sd so Q E hdp hu hp hret L₁ h₁ tk₁ mm F₁ N₁ B₁ X₁ T₁ A₁ qk ek gk; have bo := BnOn.mk; have bd : Bnd mm := Bnd.mk) | (k_dflt (refine' CtP.mkC ?qk6 ?qk7 ?qk9 ?qkB ?qkD ?qc2 ?qc3 ?qc4 ?_; (((((case qk6 => k_is); (case qk7 => k_is); (case qk9 => rfl); (case qc2 => exact rfl); (case qc3 => exact rfl); (case qc4 => exact rfl))); (case qkB => exact rfl); (case qkD => decide +kernel); k_whole))); intro p loose mean mg mb dp un gd env outer base sh sg sd so Q E hdp hu hp hret L₁ h₁ tk₁ cells₁ mm F₁ N₁ Y₁ B₁ X₁ T₁ A₁ qk ek gk; have bo := BnOn.mk; have bd : Bnd mm := Bnd.mk; k_cells Y₁; (try (fail "bn"; rename News _ _ _ _ => N₁)))))
  repeat' ((fail_if_success (with_reducible show Q _ _)); first | fail "unf" | (k_end; wrow_close) | ((with_reducible show wpAny _ _ (call (Value.builtin _) _) _ _ _); first | ((k_here; (with_reducible show wpAny _ _ (call (Value.builtin "str.lower") [Value.str _ _]) _ _ _); k_dflt (refine PyProof.Rows.SCL.lower ?_ ?_); rotate_left; (intro _))) | fail) | ((with_reducible show wpAny _ _ (call (Value.ref _) _) _ _ _); first | ((k_here; k_dflt ((fail "mine useP"); (case qzB => k_asm); (case qzF => k_asm); (case qzX => k_asm); (case qzN => k_asm); (case qzT => k_asm); (case qzK1 => first | exact rfl | assumption); (case qzK => first | exact rfl | assumption); (case qzp => first | trivial | (exact ViewIn.keeps (Fr.keep (by k_asm)) (by assumption))); (case qzd => ktr_room); (case qzu => ktr_units); (focus (((first | (intro cv ch ctk cS F9 N9 cl cL cP; have cP1 := PI.out cP; clear cP cS; obtain ⟨ct9, cV⟩ := cP1; subst cV) | (intro cv ch ctk cS F9 N9 cl cL cP; have cP1 := PB.out cP; clear cP cS; subst cP1))); all_goals ((try k_sweep); (try dsimp only); (try k_fold))))))) | fail) | walk1 | (dsimp only; walk1) | (leave1; try dsimp only) | (dsimp only) | fail "no step")
  all_goals
    ((refine hret _ _ _ (Fr.keep (by k_asm)) ?_))
    have hf := ‹folds = _›
    subst hf
    rename News _ _ _ _ => lN'
    exact ⟨_, _, _, rfl, lN'.get (List.Mem.head _), by assumption, nfresh lN' (List.Mem.head _)⟩
end
section
-- new objects of a heap
noncomputable def Seg (seg : List (Addr × Obj)) (h h' : Heap) : Prop := ∀ q ∈ seg, h'.get? q.1 = some q.2 ∧ h.get? q.1 = none
-- a 'char' node within
noncomputable def CharIn (seg : List (Addr × Obj)) (v : Value) (c : Int) : Prop := ∃ (t : Addr) (tr tc : Tok) (n : Nat), v = .ref t ∧ (t, tupOf #[.str (Str.ofString "char") tr, .int c tc] n) ∈ seg
inductive CharsIn (seg : List (Addr × Obj)) : List Value → List Int → Prop
  | nil : CharsIn seg [] []
  | cons {v vs c cs} : CharIn seg v c → CharsIn seg vs cs → CharsIn seg (v :: vs) (c :: cs)
noncomputable def NodeIn (seg : List (Addr × Obj)) (v : Value) : List Int → Prop
  | [c] => CharIn seg v c
  | cs => ∃ (t tt : Addr) (ts : Tok) (n1 n2 : Nat) (vs : List Value), v = .ref t ∧ (t, tupOf #[.str (Str.ofString "seq") ts, .ref tt] n1) ∈ seg ∧ (tt, tupOf vs.toArray n2) ∈ seg ∧ CharsIn seg vs cs
noncomputable def PWhole (P : PP) (cs : List Int) (h h' : Heap) (v : Value) : Prop := (∃ seg, Seg seg h h' ∧ NodeIn seg v cs) ∧ ∃ i ti, h'.get? P.dP = some (P.dict i ti)
theorem PStep.out {P : PP} {i : Int} {items : List Value} {c : Int} {h h' : Heap} {v : Value} (p : PStep P i items c h h' v) : PStep P i items c h h' v := p
-- a new object comes onto the ledger
theorem fresh_onto {h₀ h h' : Heap} {L t : Addr} {m : Str → Option Value} {o : Obj} {news all : List (Addr × Obj)} (Fo : Fr h₀ L h m) (No : News h₀ L h all) (N : News h₀ L h' news) (e1 : h'.get? t = some o) (e2 : h.get? t = none) : News h₀ L h' ((t, o) :: news) ∧ AllNe t all := by
  refine ⟨news_put N e1 ⟨?_, ?_⟩, allNe_of fun q hq e => ?_⟩
  · rintro rfl
    obtain ⟨oL, _, _, hL, _⟩ := Fo.ns
    rw [hL] at e2; cases e2
  · cases q : h₀.get? t with
    | none => rfl
    | some o => rw [Fo.keep _ _ q] at e2; cases e2
  · rw [← e, (No q hq).1] at e2; cases e2
theorem pwhole_of {P : PP} {cs : List Int} {h g h' : Heap} {L : Addr} {news seg : List (Addr × Obj)} {i : Int} {ti : Tok} {b : Bool} {items : List Value} {n : Nat} {v : Value}
    (G : GSub h g [P.dP, P.dF, P.nl]) (N : News g L h' news) (R : Rems [(P.dP, P.dict i ti), (P.dF, P.fdict b), (P.nl, listOf items.toArray n)] news seg) (hv : NodeIn seg v cs) : PWhole P cs h h' v := by
  obtain ⟨r1, r2, r3⟩ := R.spec
  refine ⟨⟨seg, fun q hq => ⟨(N q (r2 q hq)).1, gfresh G N (r2 q hq) ?_⟩, hv⟩, i, ti, N.get (r1 _ (.head _))⟩
  have h1 := r3 q hq _ (.head _)
  have h2 := r3 q hq _ (.tail _ (.head _))
  have h3 := r3 q hq _ (.tail _ (.tail _ (.head _)))
  simp only [List.mem_cons, List.not_mem_nil, or_false, not_or]
  exact ⟨h1.symm, h2.symm, h3.symm⟩
theorem CharsIn.len {seg : List (Addr × Obj)} {vs : List Value} {cs : List Int} (h : CharsIn seg vs cs) : vs.length = cs.length := by
  induction h with
  | nil => rfl
  | cons _ _ ih => simp only [List.length_cons, ih]
theorem CharIn.mono {seg seg' : List (Addr × Obj)} (k : ∀ q ∈ seg, q ∈ seg') {v : Value} {c : Int} : CharIn seg v c → CharIn seg' v c := fun ⟨t, a, b, n, e, m⟩ => ⟨t, a, b, n, e, k _ m⟩
theorem CharsIn.mono {seg seg' : List (Addr × Obj)} (k : ∀ q ∈ seg, q ∈ seg') {vs : List Value} {cs : List Int} (h : CharsIn seg vs cs) : CharsIn seg' vs cs := by
  induction h with
  | nil => exact .nil
  | cons c _ ih => exact .cons (c.mono k) ih
theorem CharsIn.snoc {seg : List (Addr × Obj)} {vs : List Value} {cs : List Int} {v : Value} {c : Int} (h : CharsIn seg vs cs) (x : CharIn seg v c) : CharsIn seg (vs ++ [v]) (cs ++ [c]) := by
  induction h with
  | nil => exact .cons x .nil
  | cons c _ ih => exact .cons c ih
theorem CharsIn.one {seg : List (Addr × Obj)} {v : Value} {cs : List Int} (h : CharsIn seg [v] cs) : NodeIn seg v cs := by
  cases h with
  | cons c r => cases r; exact c
theorem NodeIn.many {seg : List (Addr × Obj)} {t tt : Addr} {ts : Tok} {n1 n2 : Nat} {vs : List Value} {cs : List Int} (hl : vs.length ≠ 1) (m1 : (t, tupOf #[.str (Str.ofString "seq") ts, .ref tt] n1) ∈ seg) (m2 : (tt, tupOf vs.toArray n2) ∈ seg) (h : CharsIn seg vs cs) : NodeIn seg (.ref t) cs := by
  have e := h.len
  cases cs with
  | nil => exact ⟨t, tt, ts, n1, n2, vs, rfl, m1, m2, h⟩
  | cons c r =>
    cases r with
    | nil => exact absurd e hl
    | cons c' r => exact ⟨t, tt, ts, n1, n2, vs, rfl, m1, m2, h⟩
theorem one_or (l : List Value) : (∃ x, l = [x]) ∨ l.length ≠ 1 := by
  cases l with
  | nil => exact .inr (by decide)
  | cons x r =>
    cases r with
    | nil => exact .inl ⟨x, rfl⟩
    | cons y r => exact .inr (by simp)
theorem ints_atW {vs : List Value} {ns : List Int} (hi : IntsAre vs ns) {i : Nat} (h : i < ns.length) : ∃ c t, vs[i]? = some (.int c t) ∧ ns.take i ++ [c] = ns.take (i + 1) ∧ c ∈ ns := by
  have h' : i < vs.length := by rw [hi.length]; exact h
  obtain ⟨c, t, e, h1, h2⟩ := ints_item hi (i := i) (v := vs[i]) (by simp [h'])
  exact ⟨c, t, by rw [← e]; simp [h'], by rw [List.take_add_one, h1]; rfl, h2⟩
-- the state of the parsing's loop
structure RW where
  i : Nat
  items : List Value
  ti : Tok
  b : Bool
  n : Nat
  seg : List (Addr × Obj)
noncomputable abbrev RW.led (P : PP) (c : RW) : List (Addr × Obj) := (P.dP, P.dict c.i c.ti) :: (P.dF, P.fdict c.b) :: (P.nl, listOf c.items.toArray c.n) :: c.seg
noncomputable def RW.ok (P : PP) (cs : List Int) (c : RW) : Prop := c.i ≤ cs.length ∧ CharsIn c.seg c.items (cs.take c.i) ∧ AllNe P.dP c.seg ∧ AllNe P.dF c.seg ∧ AllNe P.nl c.seg
theorem RW.elim {P : PP} {ws : List Value} {cs : List Int} (hwi : IntsAre ws cs) (hcs : ∀ c ∈ cs, c = 66 ∨ c = 97 ∨ c = 98) {i : Nat} {items : List Value} {ti : Tok} {b : Bool} {n : Nat} {seg : List (Addr × Obj)} (h : RW.ok P cs ⟨i, items, ti, b, n, seg⟩) {G : Nat → List Value → Prop}
    (x1 : ∀ (i : Nat) (items : List Value) (c : Int) (t : Tok), (i : Int) < ws.length → i < cs.length → items.length = i → ws[i]? = some (.int c t) → cs.take i ++ [c] = cs.take (i + 1) → (c = 66 ∨ c = 97 ∨ c = 98) → CharsIn seg items (cs.take i) → AllNe P.dP seg → AllNe P.dF seg → AllNe P.nl seg → G i items)
    (x2 : ∀ (x : Value), ¬ ((cs.length : Nat) : Int) < ws.length → CharsIn seg [x] cs → AllNe P.dP seg → AllNe P.dF seg → AllNe P.nl seg → G cs.length [x])
    (x3 : ∀ items, ¬ ((cs.length : Nat) : Int) < ws.length → items.length = cs.length → items.length ≠ 1 → CharsIn seg items cs → AllNe P.dP seg → AllNe P.dF seg → AllNe P.nl seg → G cs.length items) : G i items := by
  obtain ⟨h1, h2, h3, h4, h5⟩ := h
  dsimp only at h1 h2 h3 h4 h5
  have el := hwi.length
  rcases Nat.lt_or_ge i cs.length with hlt | hge
  · obtain ⟨c, t, e1, e2, e3⟩ := ints_atW hwi hlt
    exact x1 _ _ c t (by rw [el]; exact Int.ofNat_lt.mpr hlt) hlt (by rw [h2.len, List.length_take, Nat.min_eq_left h1]) e1 e2 (hcs c e3) h2 h3 h4 h5
  · obtain rfl : i = cs.length := Nat.le_antisymm h1 hge
    rw [List.take_length] at h2
    have hn : ¬ ((cs.length : Nat) : Int) < ws.length := by rw [el]; exact Int.lt_irrefl _
    rcases one_or items with ⟨x, rfl⟩ | hl
    · exact x2 x hn h2 h3 h4 h5
    · exact x3 items hn h2.len hl h2 h3 h4 h5
theorem whole_c (w : World) (P : PP) (ws : List Value) (cs : List Int) (hwi : IntsAre ws cs) (hcl : cs.length ≤ 3) (hcs : ∀ c ∈ cs, c = 66 ∨ c = 97 ∨ c = 98) (ti : Tok) (n nd : Nat) (hd1 : @Ne Nat P.dF P.nl) (hd2 : @Ne Nat P.dP P.dF) (hd3 : @Ne Nat P.dP P.nl) :
    CtM Mine.kx.heap_1 w 243 (fun h => P.at ws h ∧ h.get? P.d = some (listOf #[] nd)) 8 400 [.ref P.X] [(P.dP, P.dict 0 ti), (P.dF, P.fdict true), (P.nl, listOf #[] n)] (PWhole P cs) := by
  ((first | (k_dflt (refine' CtM.mkP ?qk6 ?qk7 ?qk9 ?qkB ?qkz ?qc2 ?qc3 ?qc4 ?qc5 ?_; (((((case qk6 => k_is); (case qk7 => k_is); (case qk9 => rfl); (case qc2 => exact rfl); (case qc3 => exact rfl); (case qc4 => exact rfl))); (case qc5 => decide +kernel); (case qkB => exact locs rfl); (case qkz => dsimp only [List.map, List.zip, List.zipWith, List.reverse, List.reverseAux]; try exact rfl); k_whole))); intro p loose mean mg mb dp un gd env outer base sh sg sd so Q E hdp hu g₁ L₁ h₁ tk₁ mm nw F₁ N₁ B₁ X₁ T₁ G₁ lt₁ hp hret A₁ qk ek gk; have bo := BnOn.mk; have bd : Bnd mm := Bnd.mk; have bd : Bnd nw := Bnd.mk) | (k_dflt (refine' CtM.mkC ?qk6 ?qk7 ?qk9 ?qkB ?qkD ?qc2 ?qc3 ?qc4 ?_; (((((case qk6 => k_is); (case qk7 => k_is); (case qk9 => rfl); (case qc2 => exact rfl); (case qc3 => exact rfl); (case qc4 => exact rfl))); (case qkB => exact rfl); (case qkD => decide +kernel); k_whole))); intro p loose mean mg mb dp un gd env outer base sh sg sd so Q E hdp hu g₁ L₁ h₁ tk₁ cells₁ mm F₁ N₁ Y₁ B₁ X₁ T₁ G₁ lt₁ hp hret A₁ qk ek gk; have bo := BnOn.mk; have bd : Bnd mm := Bnd.mk; k_cells Y₁; (try simp only [List.cons_append, List.nil_append] at N₁); (try (fail "bn"; rename News _ _ _ _ => N₁)))))
  obtain ⟨hP, hd⟩ := hp
  obtain ⟨hX, hf, ⟨nf, hfl⟩, hl⟩ := id hP
  have hFL : g₁.IsList P.fl [Value.ref P.f].toArray := ⟨_, hfl, rfl, nf, rfl⟩
  repeat' ((fail_if_success (with_reducible show Q _ _)); first | fail "unf" | (k_end; wrow_close) | ((with_reducible show wpAny _ _ (call (Value.builtin _) _) _ _ _); first | ((k_here; (with_reducible show wpAny _ _ (call (Value.builtin "len") [Value.ref _]) _ _ _); k_dflt (refine' len_v ?qm ?qz ?_; (case qm => is_list); (case qz => first | omega | (simp only [List.length_cons, List.length_nil]; omega))))) | fail) | ((with_reducible show @ite _ _ _ _ _); first | (first | refine iteT ?_ (decide_eq_true (by assumption)) | refine iteF ?_ (fun h => absurd (of_decide_eq_true h) (by assumption)) | refine iteT ?_ (by first | (simp; done) | fail) | refine iteF ?_ (by first | (simp; done) | fail) | fail) | fail) | ((with_reducible show wpAny _ _ (call (Value.ref _) _) _ _ _); first | ((k_here; (with_reducible show wpAny _ _ (call (Value.ref 201) _) _ _ _); k_dflt ((fail "fq"; refine' CtP.use (node_c w P ws items _ nd _ ?qzs1 hno) ?qzB ?qzF ?qzX ?qzN ?qzT ?qzK1 ?qzK ?qzp ?qzd ?qzu ?_); (case qzB => k_asm); (case qzF => k_asm); (case qzX => k_asm); (case qzN => k_asm); (case qzT => k_asm); (case qzK1 => first | exact rfl | assumption); (case qzK => first | exact rfl | assumption); (case qzp => exact ⟨hP.keeps (Fr.keep (by k_asm)), News.get (by k_asm) (by k_mem), Fr.keep (by k_asm) _ _ hd, News.get (by k_asm) (by k_mem)⟩); (case qzs1 => (rw [hil]; exact hcl)); (case qzd => ktr_room); (case qzu => ktr_units); (intro cv ch ctk cS F9 N9 cl cL cP; have cP1 := PSeq.out cP; obtain ⟨t8, tt8, ts8, n81, n82, cV, p1, p2, p3, p4, p5⟩ := cP1; obtain ⟨N7, m7⟩ := fresh_onto (by k_asm) (by k_asm) N9 p2 p4; obtain ⟨N8, m8⟩ := fresh_onto (by k_asm) (by k_asm) N7 p1 p3; clear cP cS cl cL N7 N9; subst cV; (try k_sweep); (try dsimp only); (try k_fold))))) | ((k_here; (with_reducible show wpAny _ _ (call (Value.ref 201) _) _ _ _); k_dflt ((fail "fq"; refine' CtP.use (node1_c w P ws x9 _ nd _) ?qzB ?qzF ?qzX ?qzN ?qzT ?qzK1 ?qzK ?qzp ?qzd ?qzu ?_); (case qzB => k_asm); (case qzF => k_asm); (case qzX => k_asm); (case qzN => k_asm); (case qzT => k_asm); (case qzK1 => first | exact rfl | assumption); (case qzK => first | exact rfl | assumption); (case qzp => exact ⟨hP.keeps (Fr.keep (by k_asm)), News.get (by k_asm) (by k_mem), Fr.keep (by k_asm) _ _ hd, News.get (by k_asm) (by k_mem)⟩); (case qzd => ktr_room); (case qzu => ktr_units); (intro cv ch ctk cS F9 N9 cl cL cP; have cP1 := PV.out cP; clear cP cS cl cL; subst cP1; (try k_sweep); (try dsimp only); (try k_fold))))) | ((k_here; (with_reducible show wpAny _ _ (call (Value.ref 250) _) _ _ _); k_dflt ((fail "fq"; refine' CtM.useR (step_c w P ws cs hwi ci _ _ c9 items _ _ hc9 hx9 hcl ?qzs1 hlt' hd1 hd2 hd3) ?qzB ?qzF ?qzX ?qzN ?qzT ?qzK1 ?qzK ?qzR ?qzp ?qzd ?qzu ?_); (case qzB => k_asm); (case qzF => k_asm); (case qzX => k_asm); (case qzN => k_asm); (case qzT => k_asm); (case qzK1 => first | exact rfl | assumption); (case qzK => first | exact rfl | assumption); (case qzs1 => (rw [hil]; exact Nat.le_trans (Nat.le_of_lt hlt') hcl)); (case qzR => fail "mine rems"); (case qzp => (intro g2 G2 S2; exact hP.keeps S2)); (case qzd => ktr_room); (case qzu => ktr_units); (intro cv ch ctk cG F9 N9 cO cP; obtain ⟨cV, ti9, tr9, tc9, t9, n9, n92, cp1, cp2, cp3, cp4, cp5⟩ := PStep.out cP; replace N9 := news_put (news_put (news_put N9 cp3 (cO _ (List.Mem.tail _ (List.Mem.tail _ (List.Mem.head _))))) cp2 (cO _ (List.Mem.tail _ (List.Mem.head _)))) cp1 (cO _ (List.Mem.head _)); obtain ⟨N8, nn9⟩ := fresh_onto (by k_asm) (by k_asm) N9 cp4 cp5; clear N9 cG cO cp1 cp2 cp3 cp4 cp5 cP; subst cV; (try k_sweep); (try dsimp only); (try k_fold))))) | ((k_here; k_dflt ((((fail "fq"; refine' CtP.use (top_c w P ws _ _) ?qzB ?qzF ?qzX ?qzN ?qzT ?qzK1 ?qzK ?qzp ?qzd ?qzu ?_))); (case qzB => k_asm); (case qzF => k_asm); (case qzX => k_asm); (case qzN => k_asm); (case qzT => k_asm); (case qzK1 => first | exact rfl | assumption); (case qzK => first | exact rfl | assumption); (case qzp => first | trivial | (first | (exact ⟨hP.keeps (Fr.keep (by k_asm)), News.get (by k_asm) (by k_mem)⟩) | (exact ViewIn.keeps (Fr.keep (by k_asm)) (by assumption)))); (case qzd => ktr_room); (case qzu => ktr_units); (focus (((first | ((intro cv ch ctk cS F9 N9 cl cL cP; have cP1 := PV.out cP; clear cP cS cl cL; subst cP1)) | (first | (intro cv ch ctk cS F9 N9 cl cL cP; have cP1 := PI.out cP; clear cP cS; obtain ⟨ct9, cV⟩ := cP1; subst cV) | (intro cv ch ctk cS F9 N9 cl cL cP; have cP1 := PB.out cP; clear cP cS; subst cP1)))); all_goals ((try k_sweep); (try dsimp only); (try k_fold))))))) | fail) | ((with_reducible show wpAny _ _ (exec (Stmt.While _ _ _ _) _) _ _ _); first | ((k_here; (rename Fr _ _ _ _ => lF'); (rename News _ _ _ _ => lN'); k_dflt (refine' ksw_while (RW.led P) (fun _ => []) (RW.ok P cs) [] (fun _ => True) (fun c : RW => cs.length - c.i) ⟨0, [], ti, true, n, []⟩ lF' ?qkn ⟨Nat.zero_le _, .nil, trivial, trivial, trivial⟩ ?qkk trivial ?_; (case qkn => exact lN'); (case qkk => kst_all); clear lF' lN'; intro c' u' h' tk' hf' hp' F' N'; clear hp'; obtain ⟨ci, items, cti, cb, cn, sg⟩ := c'; (dsimp only [kstB, RW.led] at F' N'); revert N'; apply RW.elim hwi hcs hf'; (intro ci items c9 t9 hlt hlt' hil hx9 htk hc9 hch a1 a2 a3 N'; clear hf'; (((first | k_unfold | (k_unmd; k_unfold) | skip); (try fail "nrm"); (try k_fold); (try (fail_if_success (fail_if_success (have bq : BnOn := by with_reducible assumption)); (try fail "bm"); (try fail "bn")))))); rotate_left; (intro x9 hge hch a1 a2 a3 N'; clear hf'; (((first | k_unfold | (k_unmd; k_unfold) | skip); (try fail "nrm"); (try k_fold); (try (fail_if_success (fail_if_success (have bq : BnOn := by with_reducible assumption)); (try fail "bm"); (try fail "bn")))))); rotate_left; (intro items hge hil hno hch a1 a2 a3 N'; clear hf'; (((first | k_unfold | (k_unmd; k_unfold) | skip); (try fail "nrm"); (try k_fold); (try (fail_if_success (fail_if_success (have bq : BnOn := by with_reducible assumption)); (try fail "bm"); (try fail "bn")))))); rotate_left))) | fail) | walk1 | (dsimp only; walk1) | (leave1; try dsimp only) | (dsimp only) | fail "no step")
  · refine' ksw_end (⟨ci + 1, items ++ [.ref t9], ti9, false, n9, (t9, tupOf #[.str (Str.ofString "char") tr9, .int c9 tc9] n92) :: sg⟩ : RW) ?qzF ?qzN ?qzhn ?qzhf ?qzhk ?qzhr trivial ?qzhm
    case qzF => k_asm
    case qzN => k_asm
    case qzhn => (intro x9 hx9; dsimp only [RW.led] at hx9; rcases List.mem_cons.mp hx9 with rfl | hx9; (k_mem); rcases List.mem_cons.mp hx9 with rfl | hx9; (k_mem); rcases List.mem_cons.mp hx9 with rfl | hx9; (k_mem); rcases List.mem_cons.mp hx9 with rfl | hx9; (k_mem); repeat first | exact hx9 | apply List.Mem.tail)
    case qzhf => exact ⟨hlt', by rw [← htk]; exact (hch.mono fun q hq => .tail _ hq).snoc ⟨t9, tr9, tc9, n92, rfl, .head _⟩, ⟨(AllNe.ne nn9 (by k_mem)).symm, a1⟩, ⟨(AllNe.ne nn9 (by k_mem)).symm, a2⟩, ⟨(AllNe.ne nn9 (by k_mem)).symm, a3⟩⟩
    case qzhk => kst_all
    case qzhr => ksw_same
    case qzhm => exact Nat.sub_lt_sub_left hlt' (Nat.lt_succ_self _)
  · ((refine hret _ _ _ _ (by k_asm) ?_))
    rename News _ _ _ _ => N8; (try dsimp +zetaDelta only at N8)
    exact pwhole_of G₁ N8 (by fail "mine rems") (CharsIn.one hch)
  · ((refine hret _ _ _ _ (by k_asm) ?_))
    rename News _ _ _ _ => N8; (try dsimp +zetaDelta only at N8)
    exact pwhole_of G₁ N8 (by fail "mine rems") (NodeIn.many hno (by k_mem) (by k_mem) (hch.mono fun q hq => .tail _ (.tail _ hq)))
end
section
-- a find among new objects
theorem pp_newL {G : Prop} {h₀ h : Heap} {L x dP l fl f dF d nl : Addr} {news : List (Addr × Obj)} {h0 h1 h2 h3 g0 g1 g2 g3 g4 : Int} {t0 t1 t2 t3 t4 u0 u1 u2 u3 u4 u5 u6 ti : Tok} {n nd nf : Nat} (N : News h₀ L h news)
    (m1 : (dP, dictOf [⟨h0, .str (Str.ofString "codes") t0, .ref l⟩, ⟨h1, .str (Str.ofString "place") t1, .int 0 ti⟩, ⟨h2, .str (Str.ofString "frames") t2, .ref fl⟩, ⟨h3, .str (Str.ofString "groups") t3, .int 0 t4⟩] 4) ∈ news)
    (m2 : (dF, dictOf [⟨g0, .str (Str.ofString "word") u0, .str (Str.ofString "top") u5⟩, ⟨g1, .str (Str.ofString "number") u1, .int 0 u6⟩, ⟨g2, .str (Str.ofString "done") u2, .ref d⟩, ⟨g3, .str (Str.ofString "nodes") u3, .ref nl⟩, ⟨g4, .str (Str.ofString "is_loose") u4, .bool true⟩] 5) ∈ news)
    (m3 : (x, instObj 328 dP) ∈ news) (m4 : (f, instObj 204 dF) ∈ news) (m5 : (fl, listOf #[.ref f] nf) ∈ news) (m6 : (d, listOf #[] nd) ∈ news) (m7 : (nl, listOf #[] n) ∈ news)
    (k : let P : PP := ⟨fun i => [h0, h1, h2, h3].getD i 0, fun i => [t0, t1, t2, t3, t4].getD i 0, fun i => [g0, g1, g2, g3, g4].getD i 0, fun i => [u0, u1, u2, u3, u4, u5, u6].getD i 0, x, dP, l, fl, f, dF, d, nl⟩;
      @Ne Nat P.dF P.nl → @Ne Nat P.dP P.dF → @Ne Nat P.dP P.nl → @Ne Nat P.dP P.X → @Ne Nat P.dP P.f → @Ne Nat P.dP P.fl → @Ne Nat P.dP P.d → @Ne Nat P.dF P.X → @Ne Nat P.dF P.f → @Ne Nat P.dF P.fl → @Ne Nat P.dF P.d → @Ne Nat P.nl P.X → @Ne Nat P.nl P.f → @Ne Nat P.nl P.fl →
      News h₀ L h [(P.dP, P.dict 0 ti), (P.dF, P.fdict true), (P.nl, listOf #[] n), (P.X, instObj 328 P.dP), (P.f, instObj 204 P.dF), (P.fl, listOf #[.ref P.f] nf), (P.d, listOf #[] nd)] → G) : G := by
  have ne : ∀ {a b : Addr} {o o' : Obj}, (a, o) ∈ news → (b, o') ∈ news → o ≠ o' → @Ne Nat a b := fun {a b o o'} h1 h2 h3 e => by
    have e1 := (N _ h1).1; have e2 := (N _ h2).1
    dsimp only at e1 e2
    have e' : a = b := e
    rw [e', e2] at e1; exact h3 (Option.some.inj e1).symm
  refine k (ne m2 m7 (by intro e; have e := congrArg Obj.data e; cases e)) (ne m1 m2 (by intro e; have e := congrArg Obj.data e; cases e)) (ne m1 m7 (by intro e; have e := congrArg Obj.data e; cases e)) (ne m1 m3 (by intro e; have e := congrArg Obj.data e; cases e)) (ne m1 m4 (by intro e; have e := congrArg Obj.data e; cases e)) (ne m1 m5 (by intro e; have e := congrArg Obj.data e; cases e)) (ne m1 m6 (by intro e; have e := congrArg Obj.data e; cases e)) (ne m2 m3 (by intro e; have e := congrArg Obj.data e; cases e)) (ne m2 m4 (by intro e; have e := congrArg Obj.data e; cases e)) (ne m2 m5 (by intro e; have e := congrArg Obj.data e; cases e)) (ne m2 m6 (by intro e; have e := congrArg Obj.data e; cases e)) (ne m7 m3 (by intro e; have e := congrArg Obj.data e; cases e)) (ne m7 m4 (by intro e; have e := congrArg Obj.data e; cases e)) (ne m7 m5 (by intro e; have e := congrArg Obj.data e; cases e)) ?_
  intro q hq
  simp only [List.mem_cons, List.not_mem_nil, or_false] at hq
  rcases hq with rfl | rfl | rfl | rfl | rfl | rfl | rfl
  · exact N _ m1
  · exact N _ m2
  · exact N _ m7
  · exact N _ m3
  · exact N _ m4
  · exact N _ m5
  · exact N _ m6
theorem seg_onto {h₀ h h' : Heap} {L : Addr} {m : Str → Option Value} {news all seg : List (Addr × Obj)} (Fo : Fr h₀ L h m) (No : News h₀ L h all) (N : News h₀ L h' news) (S : Seg seg h h') : News h₀ L h' (news ++ seg) ∧ ∀ p ∈ all, AllNe p.1 seg := by
  refine ⟨fun q hq => ?_, fun p hp => allNe_of fun q hq e => ?_⟩
  · rcases List.mem_append.mp hq with hq | hq
    · exact N q hq
    · obtain ⟨e1, e2⟩ := S q hq
      refine ⟨e1, ?_, none_back Fo.keep e2⟩
      rintro e
      obtain ⟨oL, _, _, hL, _⟩ := Fo.ns
      rw [e, hL] at e2; cases e2
  · have := (S q hq).2
    rw [e, (No p hp).1] at this; cases this
noncomputable def PParse (cs : List Int) (h h' : Heap) (v : Value) : Prop := ∃ (seg : List (Addr × Obj)) (pt : Addr) (n : Nat) (tg : Tok) (v' : Value), v = .ref pt ∧ h'.get? pt = some (tupOf #[v', .int 0 tg] n) ∧ h.get? pt = none ∧ Seg seg h h' ∧ NodeIn seg v' cs
theorem parse_c (w : World) (l : Addr) (cs : List Int) (hcl : cs.length ≤ 3) (hcs : ∀ c ∈ cs, c = 66 ∨ c = 97 ∨ c = 98) :
    CtP Mine.kx.heap_1 w 339 (fun h => IntsIn h l cs) 12 600 [.ref l] (PParse cs) := by
  ((first | (k_dflt (refine' CtP.mkP ?qk6 ?qk7 ?qk9 ?qkB ?qkz ?qc2 ?qc3 ?qc4 ?qc5 ?_; (((((case qk6 => k_is); (case qk7 => k_is); (case qk9 => rfl); (case qc2 => exact rfl); (case qc3 => exact rfl); (case qc4 => exact rfl))); (case qc5 => decide +kernel); (case qkB => exact locs rfl); (case qkz => dsimp only [List.map, List.zip, List.zipWith, List.reverse, List.reverseAux]; try exact rfl); k_whole))); intro p loose mean mg mb dp un gd env outer base sh sg sd so Q E hdp hu hp hret L₁ h₁ tk₁ mm F₁ N₁ B₁ X₁ T₁ A₁ qk ek gk; have bo := BnOn.mk; have bd : Bnd mm := Bnd.mk) | (k_dflt (refine' CtP.mkC ?qk6 ?qk7 ?qk9 ?qkB ?qkD ?qc2 ?qc3 ?qc4 ?_; (((((case qk6 => k_is); (case qk7 => k_is); (case qk9 => rfl); (case qc2 => exact rfl); (case qc3 => exact rfl); (case qc4 => exact rfl))); (case qkB => exact rfl); (case qkD => decide +kernel); k_whole))); intro p loose mean mg mb dp un gd env outer base sh sg sd so Q E hdp hu hp hret L₁ h₁ tk₁ cells₁ mm F₁ N₁ Y₁ B₁ X₁ T₁ A₁ qk ek gk; have bo := BnOn.mk; have bd : Bnd mm := Bnd.mk; k_cells Y₁; (try (fail "bn"; rename News _ _ _ _ => N₁)))))
  obtain ⟨ws, hw, hwi⟩ := hp
  repeat' ((fail_if_success (with_reducible show Q _ _)); first | fail "unf" | (k_end; wrow_close) | ((with_reducible show wpAny _ _ (call (Value.ref _) _) _ _ _); first | ((k_here; (with_reducible show wpAny _ _ (call (Value.ref 243) _) _ _ _); k_dflt ((rename News _ _ _ _ => lN'); (refine foldG ?_; intro gk; refine pp_newL lN' (by k_mem) (by k_mem) (by k_mem) (by k_mem) (by k_mem) (by k_mem) (by k_mem) ?_; intro P d1 d2 d3 d4 d5 d6 d7 d8 d9 d10 d11 d12 d13 d14 N7; k_unfold); clear lN'; (fail "fq"; refine' CtM.useR (whole_c w P ws cs hwi hcl hcs _ _ _ d1 d2 d3) ?qzB ?qzF ?qzX ?qzN ?qzT ?qzK1 ?qzK ?qzR ?qzp ?qzd ?qzu ?_); (case qzB => k_asm); (case qzF => k_asm); (case qzX => k_asm); (case qzN => exact N7); (case qzT => k_asm); (case qzK1 => first | exact rfl | assumption); (case qzK => first | exact rfl | assumption); (case qzR => fail "mine rems"); (case qzp => (intro g2 G2 S2; exact ⟨⟨G2 _ _ (N7.get (by k_mem)) (by simp; exact ⟨by k_ne, by k_ne, by k_ne⟩), G2 _ _ (N7.get (by k_mem)) (by simp; exact ⟨by k_ne, by k_ne, by k_ne⟩), ⟨_, G2 _ _ (N7.get (by k_mem)) (by simp; exact ⟨by k_ne, by k_ne, by k_ne⟩)⟩, stays_list S2 (by fail "mine baseL")⟩, G2 _ _ (N7.get (by k_mem)) (by simp; exact ⟨by k_ne, by k_ne, by k_ne⟩)⟩)); (case qzd => ktr_room); (case qzu => ktr_units); (intro cv ch ctk cG F9 N9 cO cP; obtain ⟨⟨seg, cS, cV⟩, i9, ti9, cD⟩ := cP; replace N9 := news_put N9 cD (cO _ (List.Mem.head _)); obtain ⟨N8, nn9⟩ := seg_onto (by k_asm) N7 N9 cS; clear N7 N9 cG cO cD; (simp only [List.cons_append, List.nil_append] at N8); (try k_sweep); (try dsimp only); (try k_fold))))) | ((k_here; k_dflt ((fail "mine useP"); (case qzB => k_asm); (case qzF => k_asm); (case qzX => k_asm); (case qzN => k_asm); (case qzT => k_asm); (case qzK1 => first | exact rfl | assumption); (case qzK => first | exact rfl | assumption); (case qzp => first | trivial | (exact ViewIn.keeps (Fr.keep (by k_asm)) (by assumption))); (case qzd => ktr_room); (case qzu => ktr_units); (focus (((first | (intro cv ch ctk cS F9 N9 cl cL cP; have cP1 := PI.out cP; clear cP cS; obtain ⟨ct9, cV⟩ := cP1; subst cV) | (intro cv ch ctk cS F9 N9 cl cL cP; have cP1 := PB.out cP; clear cP cS; subst cP1))); all_goals ((try k_sweep); (try dsimp only); (try k_fold))))))) | fail) | walk1 | (dsimp only; walk1) | (leave1; try dsimp only) | (dsimp only) | fail "no step")
  ((refine hret _ _ _ (Fr.keep (by k_asm)) ?_))
  rename News _ _ _ _ => N9; rename AllLt _ _ => l9; (try dsimp +zetaDelta only at N9)
  have sub := fun (q : Addr × Obj) (hq : q ∈ seg) => N9 q (List.Mem.tail _ (List.Mem.tail _ (List.Mem.tail _ (List.Mem.tail _ (List.Mem.tail _ (List.Mem.tail _ hq))))))
  exact ⟨seg, _, _, _, cv, rfl, N9.get (List.Mem.head _), nfresh N9 (List.Mem.head _), fun q hq => ⟨(sub q hq).1, (sub q hq).2.2⟩, cV⟩
end
section
-- what a Compiling holds that no step turns
structure CC where
  h : Nat → Int
  t : Nat → Tok
  X : Addr
  dC : Addr
  rl : Addr
  pl : Addr
  wl : Addr
  folds : Bool
noncomputable abbrev CC.dict (P : CC) : Obj :=
  dictOf [⟨P.h 0, .str (Str.ofString "folds") (P.t 0), .bool P.folds⟩, ⟨P.h 1, .str (Str.ofString "rows") (P.t 1), .ref P.rl⟩, ⟨P.h 2, .str (Str.ofString "places") (P.t 2), .ref P.pl⟩, ⟨P.h 3, .str (Str.ofString "labels") (P.t 3), .int 0 (P.t 6)⟩, ⟨P.h 4, .str (Str.ofString "marks") (P.t 4), .int 0 (P.t 7)⟩, ⟨P.h 5, .str (Str.ofString "waiting") (P.t 5), .ref P.wl⟩] 6
noncomputable def CC.at (P : CC) (h : Heap) : Prop := h.get? P.X = some (instObj 439 P.dC) ∧ h.get? P.dC = some P.dict
theorem CC.at.keeps {P : CC} {h h' : Heap} (k : h.StaysIn h') (a : P.at h) : P.at h' := ⟨k _ _ a.1, k _ _ a.2⟩
noncomputable def PWait (P : CC) (wv : List Value) (_ h' : Heap) (v : Value) : Prop := v = .none ∧ ∃ n, h'.get? P.wl = some (listOf wv.toArray n)
theorem take_snoc' {α : Type} {l : List α} {i : Nat} {v : α} (h : l[i]? = some v) : l.take i ++ [v] = l.take (i + 1) := by
  rw [List.take_add_one, h]; rfl
theorem wait_c (w : World) (P : CC) (rv wv tv : List Value) (tl : Addr) (nr n : Nat) (hr : rv.length ≤ 10) (hwv : wv.length ≤ 10) (htv : tv.length ≤ 5) :
    CtM Mine.kx.heap_1 w 389 (fun h => P.at h ∧ h.get? P.rl = some (listOf rv.toArray nr) ∧ h.IsList tl tv.toArray) 2 80 [.ref P.X, .ref tl] [(P.wl, listOf wv.toArray n)] (PWait P (wv ++ tv.reverse)) := by
  ((first | (k_dflt (refine' CtM.mkP ?qk6 ?qk7 ?qk9 ?qkB ?qkz ?qc2 ?qc3 ?qc4 ?qc5 ?_; (((((case qk6 => k_is); (case qk7 => k_is); (case qk9 => rfl); (case qc2 => exact rfl); (case qc3 => exact rfl); (case qc4 => exact rfl))); (case qc5 => decide +kernel); (case qkB => exact locs rfl); (case qkz => dsimp only [List.map, List.zip, List.zipWith, List.reverse, List.reverseAux]; try exact rfl); k_whole))); intro p loose mean mg mb dp un gd env outer base sh sg sd so Q E hdp hu g₁ L₁ h₁ tk₁ mm nw F₁ N₁ B₁ X₁ T₁ G₁ lt₁ hp hret A₁ qk ek gk; have bo := BnOn.mk; have bd : Bnd mm := Bnd.mk; have bd : Bnd nw := Bnd.mk) | (k_dflt (refine' CtM.mkC ?qk6 ?qk7 ?qk9 ?qkB ?qkD ?qc2 ?qc3 ?qc4 ?_; (((((case qk6 => k_is); (case qk7 => k_is); (case qk9 => rfl); (case qc2 => exact rfl); (case qc3 => exact rfl); (case qc4 => exact rfl))); (case qkB => exact rfl); (case qkD => decide +kernel); k_whole))); intro p loose mean mg mb dp un gd env outer base sh sg sd so Q E hdp hu g₁ L₁ h₁ tk₁ cells₁ mm F₁ N₁ Y₁ B₁ X₁ T₁ G₁ lt₁ hp hret A₁ qk ek gk; have bo := BnOn.mk; have bd : Bnd mm := Bnd.mk; k_cells Y₁; (try simp only [List.cons_append, List.nil_append] at N₁); (try (fail "bn"; rename News _ _ _ _ => N₁)))))
  obtain ⟨⟨hX, hC⟩, hrl, htl⟩ := hp
  have hrL : g₁.IsList P.rl rv.toArray := ⟨_, hrl, rfl, nr, rfl⟩
  repeat' ((fail_if_success (with_reducible show Q _ _)); first | fail "unf" | (k_end; wrow_close) | ((with_reducible show wpAny _ _ (call (Value.builtin _) _) _ _ _); first | ((k_here; (with_reducible show wpAny _ _ (call (Value.builtin _) [Value.ref _, _]) _ _ _); k_dflt (refine' append_K ?qk1 ?qk2 ?qk3 ?_ ?qz; (case qk1 => k_asm); (case qk2 => k_asm); (case qk3 => k_upd); (case qz => ((rw [PySem.sizeLine_eq]); (simp only [List.size_toArray, List.length_append, List.length_cons, List.length_nil, Array.size_push]); omega)); k_whole); intro h' F' N'; (try k_sweep))) | ((k_here; (with_reducible show wpAny _ _ (call (Value.builtin "len") [Value.ref _]) _ _ _); k_dflt (refine' len_v ?qm ?qz ?_; (case qm => is_list); (case qz => first | omega | (simp only [List.length_cons, List.length_nil]; omega))))) | fail) | ((with_reducible show wpAny _ _ (call (Value.ref _) _) _ _ _); first | ((k_here; k_dflt ((fail "mine useP"); (case qzB => k_asm); (case qzF => k_asm); (case qzX => k_asm); (case qzN => k_asm); (case qzT => k_asm); (case qzK1 => first | exact rfl | assumption); (case qzK => first | exact rfl | assumption); (case qzp => first | trivial | (exact ViewIn.keeps (Fr.keep (by k_asm)) (by assumption))); (case qzd => ktr_room); (case qzu => ktr_units); (focus (((first | (intro cv ch ctk cS F9 N9 cl cL cP; have cP1 := PI.out cP; clear cP cS; obtain ⟨ct9, cV⟩ := cP1; subst cV) | (intro cv ch ctk cS F9 N9 cl cL cP; have cP1 := PB.out cP; clear cP cS; subst cP1))); all_goals ((try k_sweep); (try dsimp only); (try k_fold))))))) | fail) | ((with_reducible show wpAny _ _ (pyIter (Value.ref _)) _ _ _); k_dflt ((((rename News _ _ _ _ => lN'); refine' rev_S [] (fun st : List Value × Nat => [(P.wl, W.listOf st.1.toArray st.2)]) (fun i st => st.1 = wv ++ tv.reverse.take i ∧ st.1.length ≤ 20) (wv, n) rfl htl (by assumption) (news := []) lN' (by k_all) ⟨by simp, by dsimp only; omega⟩ (fun i' v' u' st' h' tk' oI' hv' hP' hoff' F' N' => ?_) (fun u' st' h' tk' hP' F' N' => ?_); (((refine foldG ?_; intro gk))); (obtain ⟨st1, st2⟩ := st'); (obtain ⟨hq1, hq2⟩ := hP'); (dsimp only at hq1 hq2 F' N' hoff'); (simp only [List.cons_append, List.nil_append] at N' hoff'); ((((first | k_unfold | (k_unmd; k_unfold) | skip); (try fail "nrm"); (try k_fold); (try (fail_if_success (fail_if_success (have bq : BnOn := by with_reducible assumption)); (try fail "bm"); (try fail "bn")))))))))) | walk1 | (dsimp only; walk1) | (leave1; try dsimp only) | (dsimp only) | fail "no step")
  · rename News _ _ _ _ => N9; (try dsimp +zetaDelta only at N9)
    simp only [List.push_toArray] at N9
    refine' js_end ((st1 ++ [_], st2 + 1) : List Value × Nat) ?qzF ?qzN ?qzhI ?qzhn ?qzho ?qzhm ?qzhP
    case qzF => k_asm
    case qzN => exact N9
    case qzhI => k_mem
    case qzhn => lcg_sub
    case qzho => k_all
    case qzhm => ((intro z h1 h2; (try dsimp +zetaDelta only); (simp only [List.contains_cons, List.contains_nil, Bool.or_false, Bool.or_eq_false_iff, beq_eq_false_iff_ne, ne_eq] at h1 h2); (simp [h1, h2]; done)))
    case qzhP =>
      refine ⟨by dsimp only; rw [hq1, List.append_assoc, take_snoc' hv'], ?_⟩
      dsimp only
      rw [hq1, List.append_assoc, take_snoc' hv', List.length_append, List.length_take, List.length_reverse]; omega
  · ((refine hret _ _ _ _ (by k_asm) ?_))
    obtain ⟨hq1, hq2⟩ := hP'
    rw [← List.length_reverse, List.take_length] at hq1
    exact ⟨rfl, _, hq1 ▸ News.get N' (List.Mem.head _)⟩
theorem PWait.out {P : CC} {wv : List Value} {h h' : Heap} {v : Value} (p : PWait P wv h h' v) : v = .none ∧ ∃ n, h'.get? P.wl = some (listOf wv.toArray n) := p
noncomputable def PNodeC (P : CC) (rv : List Value) (c : Int) (h h' : Heap) (v : Value) : Prop := v = .none ∧ ∃ (t : Addr) (tr tc : Tok) (n n2 : Nat), h'.get? P.rl = some (listOf (rv ++ [Value.ref t]).toArray n) ∧ h'.get? t = some (tupOf #[.str (Str.ofString "char") tr, .int c tc] n2) ∧ h.get? t = none
theorem node_char_c (w : World) (P : CC) (rv : List Value) (nt : Addr) (c : Int) (tr tc : Tok) (k n : Nat) (hr : rv.length ≤ 10) :
    CtM Mine.kx.heap_1 w 401 (fun h => P.at h ∧ h.get? nt = some (tupOf #[.str (Str.ofString "char") tr, .int c tc] k)) 4 80 [.ref P.X, .ref nt] [(P.rl, listOf rv.toArray n)] (PNodeC P rv (fo P.folds c)) := by
  ((first | (k_dflt (refine' CtM.mkP ?qk6 ?qk7 ?qk9 ?qkB ?qkz ?qc2 ?qc3 ?qc4 ?qc5 ?_; (((((case qk6 => k_is); (case qk7 => k_is); (case qk9 => rfl); (case qc2 => exact rfl); (case qc3 => exact rfl); (case qc4 => exact rfl))); (case qc5 => decide +kernel); (case qkB => exact locs rfl); (case qkz => dsimp only [List.map, List.zip, List.zipWith, List.reverse, List.reverseAux]; try exact rfl); k_whole))); intro p loose mean mg mb dp un gd env outer base sh sg sd so Q E hdp hu g₁ L₁ h₁ tk₁ mm nw F₁ N₁ B₁ X₁ T₁ G₁ lt₁ hp hret A₁ qk ek gk; have bo := BnOn.mk; have bd : Bnd mm := Bnd.mk; have bd : Bnd nw := Bnd.mk) | (k_dflt (refine' CtM.mkC ?qk6 ?qk7 ?qk9 ?qkB ?qkD ?qc2 ?qc3 ?qc4 ?_; (((((case qk6 => k_is); (case qk7 => k_is); (case qk9 => rfl); (case qc2 => exact rfl); (case qc3 => exact rfl); (case qc4 => exact rfl))); (case qkB => exact rfl); (case qkD => decide +kernel); k_whole))); intro p loose mean mg mb dp un gd env outer base sh sg sd so Q E hdp hu g₁ L₁ h₁ tk₁ cells₁ mm F₁ N₁ Y₁ B₁ X₁ T₁ G₁ lt₁ hp hret A₁ qk ek gk; have bo := BnOn.mk; have bd : Bnd mm := Bnd.mk; k_cells Y₁; (try simp only [List.cons_append, List.nil_append] at N₁); (try (fail "bn"; rename News _ _ _ _ => N₁)))))
  obtain ⟨⟨hX, hC⟩, hnt⟩ := hp
  have hT : IsTup g₁ nt #[.str (Str.ofString "char") tr, .int c tc] := ⟨_, hnt, rfl, k, rfl⟩
  repeat' ((fail_if_success (with_reducible show Q _ _)); first | fail "unf" | (k_end; wrow_close) | ((with_reducible show wpAny _ _ (call (Value.builtin _) _) _ _ _); first | ((k_here; (with_reducible show wpAny _ _ (call (Value.builtin _) [Value.ref _, _]) _ _ _); k_dflt (refine' append_K ?qk1 ?qk2 ?qk3 ?_ ?qz; (case qk1 => k_asm); (case qk2 => k_asm); (case qk3 => k_upd); (case qz => ((rw [PySem.sizeLine_eq]); (simp only [List.size_toArray, List.length_append, List.length_cons, List.length_nil, Array.size_push]); omega)); k_whole); intro h' F' N'; (try k_sweep))) | ((k_here; (with_reducible show wpAny _ _ (call (Value.builtin "len") [Value.ref _]) _ _ _); k_dflt (refine' len_v ?qm ?qz ?_; (case qm => is_list); (case qz => first | omega | (simp only [List.length_cons, List.length_nil]; omega))))) | fail) | ((with_reducible show wpAny _ _ (call (Value.ref _) _) _ _ _); first | ((k_here; k_dflt ((((fail "fq"; refine' CtP.use ?qzC ?qzB ?qzF ?qzX ?qzN ?qzT ?qzK1 ?qzK ?qzp ?qzd ?qzu ?_; (case qzC => ((exact fold_c _ _ _)))))); (case qzB => k_asm); (case qzF => k_asm); (case qzX => k_asm); (case qzN => k_asm); (case qzT => k_asm); (case qzK1 => first | exact rfl | assumption); (case qzK => first | exact rfl | assumption); (case qzp => first | trivial | (exact ViewIn.keeps (Fr.keep (by k_asm)) (by assumption))); (case qzd => ktr_room); (case qzu => ktr_units); (focus (((first | (intro cv ch ctk cS F9 N9 cl cL cP; have cP1 := PI.out cP; clear cP cS; obtain ⟨ct9, cV⟩ := cP1; subst cV) | (intro cv ch ctk cS F9 N9 cl cL cP; have cP1 := PB.out cP; clear cP cS; subst cP1))); all_goals ((try k_sweep); (try dsimp only); (try k_fold))))))) | fail) | ((with_reducible show wpAny _ _ (pyIter (Value.ref _)) _ _ _); k_dflt ((((rename News _ _ _ _ => lN'); refine' rev_S [] (fun st : List Value × Nat => [(P.wl, W.listOf st.1.toArray st.2)]) (fun i st => st.1 = wv ++ tv.reverse.take i ∧ st.1.length ≤ 20) (wv, n) rfl htl (by assumption) (news := []) lN' (by k_all) ⟨by simp, by dsimp only; omega⟩ (fun i' v' u' st' h' tk' oI' hv' hP' hoff' F' N' => ?_) (fun u' st' h' tk' hP' F' N' => ?_); (((refine foldG ?_; intro gk))); (obtain ⟨st1, st2⟩ := st'); (obtain ⟨hq1, hq2⟩ := hP'); (dsimp only at hq1 hq2 F' N' hoff'); (simp only [List.cons_append, List.nil_append] at N' hoff'); ((((first | k_unfold | (k_unmd; k_unfold) | skip); (try fail "nrm"); (try k_fold); (try (fail_if_success (fail_if_success (have bq : BnOn := by with_reducible assumption)); (try fail "bm"); (try fail "bn")))))))))) | walk1 | (dsimp only; walk1) | (leave1; try dsimp only) | (dsimp only) | fail "no step")
  all_goals
    ((refine hret _ _ _ _ (by k_asm) ?_))
    rename News _ _ _ _ => N9; (try dsimp +zetaDelta only at N9)
    simp only [List.push_toArray] at N9
    have hf := ‹P.folds = _›
    have ht := News.get N9 (List.Mem.head _)
    have hr := News.get N9 (List.Mem.tail _ (List.Mem.head _))
    have hfr := gfresh G₁ N9 (List.Mem.head _) (by simp; k_ne)
    first
    | (rw [show fo P.folds c = dc c by unfold fo; rw [hf]; rfl]; exact ⟨rfl, _, _, _, _, _, hr, ht, hfr⟩)
    | (rw [show fo P.folds c = c by unfold fo; rw [hf]; rfl]; exact ⟨rfl, _, _, _, _, _, hr, ht, hfr⟩)
-- tasks, made anew, each of a node
inductive NodesT (h h' : Heap) : List Value → List Value → Prop
  | nil : NodesT h h' [] []
  | cons {t : Addr} {tw : Tok} {n : Nat} {v : Value} {ts vs : List Value} : h'.get? t = some (tupOf #[.str (Str.ofString "node") tw, v] n) → h.get? t = none → NodesT h h' ts vs → NodesT h h' (.ref t :: ts) (v :: vs)
-- tasks of a ledger
inductive TasksIn (seg : List (Addr × Obj)) : List Value → List Value → Prop
  | nil : TasksIn seg [] []
  | cons {t : Addr} {tw : Tok} {n : Nat} {v : Value} {ts vs : List Value} : (t, tupOf #[.str (Str.ofString "node") tw, v] n) ∈ seg → TasksIn seg ts vs → TasksIn seg (.ref t :: ts) (v :: vs)
theorem TasksIn.mono {seg seg' : List (Addr × Obj)} (k : ∀ q ∈ seg, q ∈ seg') : ∀ {ts vs : List Value}, TasksIn seg ts vs → TasksIn seg' ts vs
  | _, _, .nil => .nil
  | _, _, .cons m r => .cons (k _ m) (r.mono k)
theorem TasksIn.snoc {seg : List (Addr × Obj)} {t : Addr} {tw : Tok} {n : Nat} {v : Value} (m : (t, tupOf #[.str (Str.ofString "node") tw, v] n) ∈ seg) : ∀ {ts vs : List Value}, TasksIn seg ts vs → TasksIn seg (ts ++ [.ref t]) (vs ++ [v])
  | _, _, .nil => .cons m .nil
  | _, _, .cons a r => .cons a (r.snoc m)
theorem TasksIn.len {seg : List (Addr × Obj)} : ∀ {ts vs : List Value}, TasksIn seg ts vs → ts.length = vs.length
  | _, _, .nil => rfl
  | _, _, .cons _ r => by simp [r.len]
theorem TasksIn.out {seg : List (Addr × Obj)} {h h' : Heap} (k : ∀ q ∈ seg, h'.get? q.1 = some q.2 ∧ h.get? q.1 = none) : ∀ {ts vs : List Value}, TasksIn seg ts vs → NodesT h h' ts vs
  | _, _, .nil => .nil
  | _, _, .cons m r => .cons (k _ m).1 (k _ m).2 (r.out k)
noncomputable def PNodeS (P : CC) (wv vs : List Value) (h h' : Heap) (v : Value) : Prop := v = .none ∧ ∃ (ts : List Value) (n : Nat), NodesT h h' ts vs ∧ h'.get? P.wl = some (listOf (wv ++ ts.reverse).toArray n)
local macro_rules | `(tactic| fail "eval ListComp") => `(tactic| (k_here; k_dflt (refine ListComp_Tup (h := ?_))))
theorem node_seq_c (w : World) (P : CC) (rv wv vs : List Value) (nt tt : Addr) (ts : Tok) (k k2 n nr : Nat) (hr : rv.length ≤ 10) (hwv : wv.length ≤ 3) (hvs : vs.length ≤ 3) :
    CtM Mine.kx.heap_1 w 401 (fun h => P.at h ∧ h.get? P.rl = some (listOf rv.toArray nr) ∧ h.get? nt = some (tupOf #[.str (Str.ofString "seq") ts, .ref tt] k) ∧ h.get? tt = some (tupOf vs.toArray k2)) 4 180 [.ref P.X, .ref nt] [(P.wl, listOf wv.toArray n)] (PNodeS P wv vs) := by
  ((first | (k_dflt (refine' CtM.mkP ?qk6 ?qk7 ?qk9 ?qkB ?qkz ?qc2 ?qc3 ?qc4 ?qc5 ?_; (((((case qk6 => k_is); (case qk7 => k_is); (case qk9 => rfl); (case qc2 => exact rfl); (case qc3 => exact rfl); (case qc4 => exact rfl))); (case qc5 => decide +kernel); (case qkB => exact locs rfl); (case qkz => dsimp only [List.map, List.zip, List.zipWith, List.reverse, List.reverseAux]; try exact rfl); k_whole))); intro p loose mean mg mb dp un gd env outer base sh sg sd so Q E hdp hu g₁ L₁ h₁ tk₁ mm nw F₁ N₁ B₁ X₁ T₁ G₁ lt₁ hp hret A₁ qk ek gk; have bo := BnOn.mk; have bd : Bnd mm := Bnd.mk; have bd : Bnd nw := Bnd.mk) | (k_dflt (refine' CtM.mkC ?qk6 ?qk7 ?qk9 ?qkB ?qkD ?qc2 ?qc3 ?qc4 ?_; (((((case qk6 => k_is); (case qk7 => k_is); (case qk9 => rfl); (case qc2 => exact rfl); (case qc3 => exact rfl); (case qc4 => exact rfl))); (case qkB => exact rfl); (case qkD => decide +kernel); k_whole))); intro p loose mean mg mb dp un gd env outer base sh sg sd so Q E hdp hu g₁ L₁ h₁ tk₁ cells₁ mm F₁ N₁ Y₁ B₁ X₁ T₁ G₁ lt₁ hp hret A₁ qk ek gk; have bo := BnOn.mk; have bd : Bnd mm := Bnd.mk; k_cells Y₁; (try simp only [List.cons_append, List.nil_append] at N₁); (try (fail "bn"; rename News _ _ _ _ => N₁)))))
  obtain ⟨hP, hrl, hnt, htt⟩ := hp
  obtain ⟨hX, hC⟩ := id hP
  have hT : IsTup g₁ nt #[.str (Str.ofString "seq") ts, .ref tt] := ⟨_, hnt, rfl, k, rfl⟩
  have hT2 : IsTup g₁ tt vs.toArray := ⟨_, htt, rfl, k2, rfl⟩
  repeat' ((fail_if_success (with_reducible show Q _ _)); first | fail "unf" | (k_end; wrow_close) | ((with_reducible show TupSrc _ _ _ _ _ _ _ _ _ _ _ _ _ _); first | ((k_here; (rename News _ _ _ _ => lN'); k_dflt (refine ⟨_, _, _, rfl, rfl, by k_asm, lN', hT2, by ((rw [PySem.sizeLine_eq]); (simp only [List.size_toArray]); omega), fun g' => ?_⟩; clear lN'; refine comp_ind (fun i ys news => ∃ seg, news = [(P.wl, W.listOf wv.toArray n)] ++ seg ∧ TasksIn seg ys (vs.take i) ∧ AllNe P.wl seg) ⟨[], rfl, .nil, trivial⟩ (fun i' ys' news' v' I' oI' C' oC' D' m' h' tk' E' hi' hR' hv' hC' hx' F' N' off' ne' => ?_) (fun ys' news' hR' => ?_)); all_goals (obtain ⟨seg, rfl, hR9, hS9⟩ := hR'); all_goals (try (simp only [List.cons_append, List.nil_append] at N' off')); all_goals (try k_fold))) | fail) | ((with_reducible show @ite _ _ _ _ _); first | (first | refine iteF ?_ | refine iteT ?_ | fail) | fail) | ((with_reducible show wpAny _ _ (compareOp _ _ (Value.ref _)) _ _ _); first | ((k_here; (with_reducible show wpAny _ _ (compareOp CmpOp.In (Value.str _ _) (Value.ref 340)) _ _ _); k_dflt (refine' in_tuple_strs ?qk1 ?qk2 ?_; (case qk1 => exact tupK (Frag.In.keeps (by k_asm) (Fr.keep (by k_asm))) (by k_is)); (case qk2 => exact .cons _ _ (.cons _ _ (.cons _ _ (.cons _ _ (.cons _ _ .nil))))); k_whole))) | fail) | ((with_reducible show wpAny _ _ (call (Value.builtin _) _) _ _ _); first | ((k_here; (with_reducible show wpAny _ _ (call (Value.builtin _) [Value.ref _, _]) _ _ _); k_dflt (refine' append_K ?qk1 ?qk2 ?qk3 ?_ ?qz; (case qk1 => k_asm); (case qk2 => k_asm); (case qk3 => k_upd); (case qz => ((rw [PySem.sizeLine_eq]); (simp only [List.size_toArray, List.length_append, List.length_cons, List.length_nil, Array.size_push]); omega)); k_whole); intro h' F' N'; (try k_sweep))) | ((k_here; (with_reducible show wpAny _ _ (call (Value.builtin "len") [Value.ref _]) _ _ _); k_dflt (refine' len_v ?qm ?qz ?_; (case qm => is_list); (case qz => first | omega | (simp only [List.length_cons, List.length_nil]; omega))))) | fail) | ((with_reducible show wpAny _ _ (call (Value.ref _) _) _ _ _); first | ((k_here; k_dflt ((((fail "fq"; refine' CtP.use ?qzC ?qzB ?qzF ?qzX ?qzN ?qzT ?qzK1 ?qzK ?qzp ?qzd ?qzu ?_; (case qzC => ((exact fold_c _ _ _)))))); (case qzB => k_asm); (case qzF => k_asm); (case qzX => k_asm); (case qzN => k_asm); (case qzT => k_asm); (case qzK1 => first | exact rfl | assumption); (case qzK => first | exact rfl | assumption); (case qzp => first | trivial | (exact ViewIn.keeps (Fr.keep (by k_asm)) (by assumption))); (case qzd => ktr_room); (case qzu => ktr_units); (focus (((first | (intro cv ch ctk cS F9 N9 cl cL cP; have cP1 := PI.out cP; clear cP cS; obtain ⟨ct9, cV⟩ := cP1; subst cV) | (intro cv ch ctk cS F9 N9 cl cL cP; have cP1 := PB.out cP; clear cP cS; subst cP1))); all_goals ((try k_sweep); (try dsimp only); (try k_fold))))))) | ((k_here; k_dflt ((((fail "fq"; refine' CtM.useR (wait_c w P rv wv ys' _ nr _ hr (by omega) (by have h5 := hR9.len; simp only [List.length_take] at h5; omega)) ?qzB ?qzF ?qzX ?qzN ?qzT ?qzK1 ?qzK ?qzR ?qzp ?qzd ?qzu ?_))); (case qzB => k_asm); (case qzF => k_asm); (case qzX => k_asm); (case qzN => k_asm); (case qzT => k_asm); (case qzK1 => first | exact rfl | assumption); (case qzK => first | exact rfl | assumption); (case qzR => fail "mine rems"); (try (case qs1 => omega)); (case qzp => first | exact fun _ _ => trivial | ((intro g2 G2 S2; exact ⟨hP.keeps S2, S2 _ _ hrl, ⟨_, G2 _ _ (News.get (by k_asm) (List.Mem.head _)) (by simp; k_ne), rfl, _, rfl⟩⟩))); (case qzd => ktr_room); (case qzu => ktr_units); (focus ((((intro cv ch ctk cG F9 N9 cO cP; obtain ⟨cV, n9, cD⟩ := PWait.out cP; replace N9 := news_put N9 cD (cO _ (List.Mem.head _)); clear cG cO cD cP; subst cV))); all_goals ((try k_sweep); (try dsimp only); (try k_fold))))))) | fail) | ((with_reducible show wpAny _ _ (pyIter (Value.ref _)) _ _ _); k_dflt ((((rename News _ _ _ _ => lN'); refine' rev_S [] (fun st : List Value × Nat => [(P.wl, W.listOf st.1.toArray st.2)]) (fun i st => st.1 = wv ++ tv.reverse.take i ∧ st.1.length ≤ 20) (wv, n) rfl htl (by assumption) (news := []) lN' (by k_all) ⟨by simp, by dsimp only; omega⟩ (fun i' v' u' st' h' tk' oI' hv' hP' hoff' F' N' => ?_) (fun u' st' h' tk' hP' F' N' => ?_); (((refine foldG ?_; intro gk))); (obtain ⟨st1, st2⟩ := st'); (obtain ⟨hq1, hq2⟩ := hP'); (dsimp only at hq1 hq2 F' N' hoff'); (simp only [List.cons_append, List.nil_append] at N' hoff'); ((((first | k_unfold | (k_unmd; k_unfold) | skip); (try fail "nrm"); (try k_fold); (try (fail_if_success (fail_if_success (have bq : BnOn := by with_reducible assumption)); (try fail "bm"); (try fail "bn")))))))))) | walk1 | (dsimp only; walk1) | (leave1; try dsimp only) | (dsimp only) | fail "no step")
  · rename News _ _ _ _ => N9; (try dsimp +zetaDelta only at N9)
    refine comp_push (by assumption) N9 off' (by k_ne) (by k_ne) (by k_ne) trivial ⟨(_, _) :: seg, rfl, ?_, ⟨by k_ne, hS9⟩⟩
    have e : vs.take (i' + 1) = vs.take i' ++ [v'] := (take_snoc hv').symm
    rw [e]
    exact TasksIn.snoc (List.Mem.head _) (TasksIn.mono (fun q hq => List.Mem.tail _ hq) hR9)
  · ((refine hret _ _ _ _ (by k_asm) ?_))
    rename News _ _ _ _ => N9; (try dsimp +zetaDelta only at N9)
    rw [List.size_toArray, List.take_length] at hR9
    exact ⟨rfl, ys', n9, hR9.out (fun q hq => ⟨(N9 q (List.Mem.tail _ (List.Mem.tail _ hq))).1, gfresh G₁ N9 (List.Mem.tail _ (List.Mem.tail _ hq)) (by simp; exact hS9.all q hq)⟩), News.get N9 (List.Mem.head _)⟩
end
section
theorem ne_len {prog : Program} {w : World} {A : Around} {E : Value → Shared → Prop} {s : Shared} {l b : Addr} {x : Value} {xs : List Value} {Q : Value → Shared → Prop} (hl : s.heap.IsList l (x :: xs).toArray) (hb : s.heap.IsList b #[]) (hu : A.units < cLine)
    (h : Q (.bool true) s) : wpAny (model prog w) A (compareOp .NotEq (.ref l) (.ref b)) Q E s :=
  PySem.SeqAt.RcNeAt.lists_lengths hl hb (by simp) hu prog w E Q h
theorem ne_nil {prog : Program} {w : World} {A : Around} {E : Value → Shared → Prop} {s : Shared} {l b : Addr} {Q : Value → Shared → Prop} (hl : s.heap.IsList l ([] : List Value).toArray) (hb : s.heap.IsList b #[]) (hu : A.units < cLine)
    (h : Q (.bool false) s) : wpAny (model prog w) A (compareOp .NotEq (.ref l) (.ref b)) Q E s :=
  PySem.SeqAt.RcNeAt.lists (e := fun _ => true) hl hb rfl hu (fun j h1 _ => absurd h1 (Nat.not_lt_zero j)) prog w E Q h
-- rows of a heap, made anew
inductive RowsF (h h' : Heap) : List Int → List Value → Prop
  | done {td : Addr} {tk : Tok} {n : Nat} : h'.get? td = some (tupOf #[.str (Str.ofString "done") tk] n) → h.get? td = none → RowsF h h' [] [.ref td]
  | cons {t : Addr} {tr tc : Tok} {n : Nat} {c : Int} {cs : List Int} {vs : List Value} : h'.get? t = some (tupOf #[.str (Str.ofString "char") tr, .int c tc] n) → h.get? t = none → RowsF h h' cs vs → RowsF h h' (c :: cs) (.ref t :: vs)
noncomputable def PComp (P : CC) (cs : List Int) (h h' : Heap) (v : Value) : Prop := v = .none ∧ ∃ (rv : List Value) (n : Nat), RowsF h h' (cs.map (fo P.folds)) rv ∧ h'.get? P.rl = some (listOf rv.toArray n)
-- 'char' nodes of the ground
inductive CharsG (g : Heap) : List Value → List Int → Prop
  | nil : CharsG g [] []
  | cons {p : Addr} {tr tc : Tok} {k : Nat} {c : Int} {vs cs} : g.get? p = some (tupOf #[.str (Str.ofString "char") tr, .int c tc] k) → CharsG g vs cs → CharsG g (.ref p :: vs) (c :: cs)
theorem CharsG.len {g : Heap} {vs cs} (h : CharsG g vs cs) : vs.length = cs.length := by
  induction h with
  | nil => rfl
  | cons _ _ ih => simp only [List.length_cons, ih]
theorem CharsG.of {g : Heap} {seg : List (Addr × Obj)} (k : ∀ q ∈ seg, g.get? q.1 = some q.2) {vs cs} (h : CharsIn seg vs cs) : CharsG g vs cs := by
  induction h with
  | nil => exact .nil
  | cons c _ ih => obtain ⟨t, tr, tc, n, rfl, m⟩ := c; exact .cons (k _ m) ih
-- rows of a ledger, so far
inductive RowsL (seg : List (Addr × Obj)) : List Int → List Value → Prop
  | nil : RowsL seg [] []
  | snoc {t : Addr} {tr tc : Tok} {n : Nat} {c : Int} {cs : List Int} {vs : List Value} : RowsL seg cs vs → (t, tupOf #[.str (Str.ofString "char") tr, .int c tc] n) ∈ seg → RowsL seg (cs ++ [c]) (vs ++ [.ref t])
theorem RowsL.mono {seg seg' : List (Addr × Obj)} (k : ∀ q ∈ seg, q ∈ seg') {cs vs} (h : RowsL seg cs vs) : RowsL seg' cs vs := by
  induction h with
  | nil => exact .nil
  | snoc _ m ih => exact .snoc ih (k _ m)
theorem RowsL.len {seg : List (Addr × Obj)} {cs vs} (h : RowsL seg cs vs) : vs.length = cs.length := by
  induction h with
  | nil => rfl
  | snoc _ m ih => simp only [List.length_append, List.length_cons, List.length_nil, ih]
theorem RowsL.out {seg : List (Addr × Obj)} {h h' : Heap} (k : ∀ q ∈ seg, h'.get? q.1 = some q.2 ∧ h.get? q.1 = none) {cs vs} (r : RowsL seg cs vs) : ∀ {cs2 vs2}, RowsF h h' cs2 vs2 → RowsF h h' (cs ++ cs2) (vs ++ vs2) := by
  induction r with
  | nil => intro _ _ r; exact r
  | snoc _ m ih =>
    intro cs2 vs2 r
    rw [List.append_assoc, List.append_assoc]
    exact ih (.cons (k _ m).1 (k _ m).2 r)
theorem NodesT.seg {h h' : Heap} {ts vs : List Value} (r : NodesT h h' ts vs) : ∃ seg, Seg seg h h' ∧ TasksIn seg ts vs := by
  induction r with
  | nil => exact ⟨[], fun q hq => (by cases hq), .nil⟩
  | cons a b _ ih =>
    obtain ⟨seg, s1, s2⟩ := ih
    exact ⟨(_, _) :: seg, fun q hq => by
      rcases List.mem_cons.mp hq with rfl | hq
      · exact ⟨a, b⟩
      · exact s1 q hq, .cons (.head _) (s2.mono fun _ h => .tail _ h)⟩
theorem allNe_app {d : Nat} {l l' : List (Addr × Obj)} (a : AllNe d l) (b : AllNe d l') : AllNe d (l ++ l') := by
  induction l with
  | nil => exact b
  | cons p r ih => exact ⟨a.1, ih a.2⟩
-- the state of the compiling's loop
structure RC where
  ph : Bool
  ts : List Value
  rv : List Value
  n : Nat
  n2 : Nat
  seg : List (Addr × Obj)
noncomputable abbrev RC.led (P : CC) (c : RC) : List (Addr × Obj) := (P.rl, listOf c.rv.toArray c.n) :: (P.wl, listOf c.ts.toArray c.n2) :: c.seg
inductive FRun (P : CC) (g : Heap) (all : List Int) (seg : List (Addr × Obj)) : Bool → List Value → List Value → Prop
  | seq {d dn t nt tt : Addr} {a b e ts : Tok} {k k' k'' k1 k2 : Nat} {vs : List Value} : (d, tupOf #[.str (Str.ofString "row") a, .ref dn] k) ∈ seg → (dn, tupOf #[.str (Str.ofString "done") b] k') ∈ seg → (t, tupOf #[.str (Str.ofString "node") e, .ref nt] k'') ∈ seg →
      g.get? nt = some (tupOf #[.str (Str.ofString "seq") ts, .ref tt] k1) → g.get? tt = some (tupOf vs.toArray k2) → CharsG g vs all → FRun P g all seg true [.ref d, .ref t] []
  | more {d dn : Addr} {a b : Tok} {k k' : Nat} {ts vs rv : List Value} {c1 c2 : List Int} : (d, tupOf #[.str (Str.ofString "row") a, .ref dn] k) ∈ seg → (dn, tupOf #[.str (Str.ofString "done") b] k') ∈ seg → TasksIn seg ts vs → CharsG g vs c2 → RowsL seg (c1.map (fo P.folds)) rv → all = c1 ++ c2 →
      FRun P g all seg false (.ref d :: ts.reverse) rv
  | over {dn : Addr} {b : Tok} {k' : Nat} {rv : List Value} : (dn, tupOf #[.str (Str.ofString "done") b] k') ∈ seg → RowsL seg (all.map (fo P.folds)) rv → FRun P g all seg false [] (rv ++ [.ref dn])
theorem FRun.splitG {P : CC} {g : Heap} {all : List Int} {seg : List (Addr × Obj)} {ph : Bool} {tl rv : List Value} {G : Bool → List Value → List Value → Prop} (A1 : AllNe P.rl seg) (A2 : AllNe P.wl seg) (hcl : all.length ≤ 3) (f : FRun P g all seg ph tl rv)
    (x1 : ∀ (d dn t nt tt : Addr) (a b e ts : Tok) (k k' k'' k1 k2 : Nat) (vs : List Value), (d, tupOf #[.str (Str.ofString "row") a, .ref dn] k) ∈ seg → (dn, tupOf #[.str (Str.ofString "done") b] k') ∈ seg → (t, tupOf #[.str (Str.ofString "node") e, .ref nt] k'') ∈ seg →
      g.get? nt = some (tupOf #[.str (Str.ofString "seq") ts, .ref tt] k1) → g.get? tt = some (tupOf vs.toArray k2) → CharsG g vs all → vs.length ≤ 3 → @Ne Nat t P.rl → @Ne Nat t P.wl → G true [.ref d, .ref t] [])
    (x2 : ∀ (d dn t p : Addr) (a b e tr tc : Tok) (k k' k'' k1 : Nat) (c : Int) (c1 c2 : List Int) (q ts vs rv : List Value), q = ts.reverse → q.length ≤ 2 → rv.length ≤ 3 → (d, tupOf #[.str (Str.ofString "row") a, .ref dn] k) ∈ seg → (dn, tupOf #[.str (Str.ofString "done") b] k') ∈ seg →
      (t, tupOf #[.str (Str.ofString "node") e, .ref p] k'') ∈ seg → g.get? p = some (tupOf #[.str (Str.ofString "char") tr, .int c tc] k1) → TasksIn seg ts vs → CharsG g vs c2 → RowsL seg (c1.map (fo P.folds)) rv → all = c1 ++ c :: c2 → @Ne Nat t P.rl → @Ne Nat t P.wl → G false (.ref d :: (q ++ [.ref t])) rv)
    (x3 : ∀ (d dn : Addr) (a b : Tok) (k k' : Nat) (rv : List Value), rv.length ≤ 3 → (d, tupOf #[.str (Str.ofString "row") a, .ref dn] k) ∈ seg → (dn, tupOf #[.str (Str.ofString "done") b] k') ∈ seg → RowsL seg (all.map (fo P.folds)) rv → @Ne Nat d P.rl → @Ne Nat d P.wl → G false [.ref d] rv)
    (x4 : ∀ (dn : Addr) (b : Tok) (k' : Nat) (r0 : List Value), (dn, tupOf #[.str (Str.ofString "done") b] k') ∈ seg → RowsL seg (all.map (fo P.folds)) r0 → G false [] (r0 ++ [.ref dn])) : G ph tl rv := by
  cases f with
  | seq m1 m2 m3 h1 h2 h3 => exact x1 _ _ _ _ _ _ _ _ _ _ _ _ _ _ _ m1 m2 m3 h1 h2 h3 (by rw [h3.len]; exact hcl) (AllNe.ne A1 m3) (AllNe.ne A2 m3)
  | more m1 m2 hT hC hR e =>
    cases hT with
    | nil =>
      cases hC
      rw [List.append_nil] at e
      subst e
      exact x3 _ _ _ _ _ _ _ (by rw [hR.len, List.length_map]; exact hcl) m1 m2 hR (AllNe.ne A1 m1) (AllNe.ne A2 m1)
    | cons m3 r =>
      cases hC with
      | cons hp rc =>
        rw [e, List.length_append, List.length_cons] at hcl
        rw [List.reverse_cons]
        exact x2 _ _ _ _ _ _ _ _ _ _ _ _ _ _ _ _ _ _ _ _ rfl (by rw [List.length_reverse, r.len, rc.len]; exact Nat.le_of_succ_le_succ (Nat.le_trans (Nat.le_add_left _ _) hcl)) (by rw [hR.len, List.length_map]; exact Nat.le_trans (Nat.le_add_right _ _) hcl) m1 m2 m3 hp r rc hR e (AllNe.ne A1 m3) (AllNe.ne A2 m3)
  | over m hR => exact x4 _ _ _ _ m hR
theorem FRun.mono {P : CC} {g : Heap} {all : List Int} {seg seg' : List (Addr × Obj)} {ph : Bool} {tl rv : List Value} (k : ∀ q ∈ seg, q ∈ seg') (f : FRun P g all seg ph tl rv) : FRun P g all seg' ph tl rv := by
  cases f with
  | seq m1 m2 m3 h1 h2 h3 => exact .seq (k _ m1) (k _ m2) (k _ m3) h1 h2 h3
  | more m1 m2 hT hC hR e => exact .more (k _ m1) (k _ m2) (hT.mono k) hC (hR.mono k) e
  | over m hR => exact .over (k _ m) (hR.mono k)
-- the loop's first state
theorem run_start {P : CC} {g h₀ h : Heap} {L d dn t : Addr} {a b e : Tok} {k k' k'' n n2 : Nat} {v : Value} {cs : List Int} {seg news : List (Addr × Obj)} (N : News h₀ L h news) (hn : NodeIn seg v cs) (hg : ∀ q ∈ seg, g.get? q.1 = some q.2)
    (m1 : (P.wl, listOf #[.ref d, .ref t] n2) ∈ news) (m2 : (P.rl, listOf #[] n) ∈ news) (m3 : (t, tupOf #[.str (Str.ofString "node") e, v] k'') ∈ news) (m4 : (d, tupOf #[.str (Str.ofString "row") a, .ref dn] k) ∈ news) (m5 : (dn, tupOf #[.str (Str.ofString "done") b] k') ∈ news) :
    ∃ c₀ : RC, News h₀ L h (c₀.led P) ∧ AllNe P.rl c₀.seg ∧ AllNe P.wl c₀.seg ∧ FRun P g cs c₀.seg c₀.ph c₀.ts c₀.rv := by
  have ne : ∀ {x y : Addr} {o o' : Obj}, (x, o) ∈ news → (y, o') ∈ news → o ≠ o' → @Ne Nat x y := fun {x y o o'} h1 h2 h3 e => by
    have e1 := (N _ h1).1; have e2 := (N _ h2).1
    dsimp only at e1 e2
    have e' : x = y := e
    rw [e', e2] at e1; exact h3 (Option.some.inj e1).symm
  have N7 : ∀ ph, News h₀ L h (RC.led P ⟨ph, [.ref d, .ref t], [], n, n2, [(t, tupOf #[.str (Str.ofString "node") e, v] k''), (d, tupOf #[.str (Str.ofString "row") a, .ref dn] k), (dn, tupOf #[.str (Str.ofString "done") b] k')]⟩) := fun ph q hq => by
    simp only [List.mem_cons, List.not_mem_nil, or_false] at hq
    rcases hq with rfl | rfl | rfl | rfl | rfl
    · exact N _ m2
    · exact N _ m1
    · exact N _ m3
    · exact N _ m4
    · exact N _ m5
  have q1 : AllNe P.rl [(t, tupOf #[.str (Str.ofString "node") e, v] k''), (d, tupOf #[.str (Str.ofString "row") a, .ref dn] k), (dn, tupOf #[.str (Str.ofString "done") b] k')] :=
    ⟨ne m3 m2 (by intro e; have e := congrArg Obj.data e; cases e), ne m4 m2 (by intro e; have e := congrArg Obj.data e; cases e), ne m5 m2 (by intro e; have e := congrArg Obj.data e; cases e), trivial⟩
  have q2 : AllNe P.wl [(t, tupOf #[.str (Str.ofString "node") e, v] k''), (d, tupOf #[.str (Str.ofString "row") a, .ref dn] k), (dn, tupOf #[.str (Str.ofString "done") b] k')] :=
    ⟨ne m3 m1 (by intro e; have e := congrArg Obj.data e; cases e), ne m4 m1 (by intro e; have e := congrArg Obj.data e; cases e), ne m5 m1 (by intro e; have e := congrArg Obj.data e; cases e), trivial⟩
  have many : ∀ {t9 tt : Addr} {ts : Tok} {n1 n3 : Nat} {vs : List Value}, v = .ref t9 → (t9, tupOf #[.str (Str.ofString "seq") ts, .ref tt] n1) ∈ seg → (tt, tupOf vs.toArray n3) ∈ seg → CharsIn seg vs cs →
      ∃ c₀ : RC, News h₀ L h (c₀.led P) ∧ AllNe P.rl c₀.seg ∧ AllNe P.wl c₀.seg ∧ FRun P g cs c₀.seg c₀.ph c₀.ts c₀.rv := by
    intro t9 tt ts n1 n3 vs ev h1 h2 h3
    subst ev
    exact ⟨_, N7 true, q1, q2, .seq (.tail _ (.head _)) (.tail _ (.tail _ (.head _))) (.head _) (hg _ h1) (hg _ h2) (CharsG.of hg h3)⟩
  match cs, hn with
  | [], ⟨_, _, _, _, _, _, ev, h1, h2, h3⟩ => exact many ev h1 h2 h3
  | [c], ⟨t9, tr, tc, n1, ev, h1⟩ =>
    subst ev
    exact ⟨_, N7 false, q1, q2, .more (ts := [.ref t]) (c1 := []) (c2 := [c]) (.tail _ (.head _)) (.tail _ (.tail _ (.head _))) (.cons (.head _) .nil) (.cons (hg _ h1) .nil) .nil rfl⟩
  | _ :: _ :: _, ⟨_, _, _, _, _, _, ev, h1, h2, h3⟩ => exact many ev h1 h2 h3
theorem news_dup {h₀ h : Heap} {L : Addr} {a b q : Addr × Obj} {seg : List (Addr × Obj)} (N : News h₀ L h (a :: b :: seg)) (m : q ∈ seg) : News h₀ L h (a :: b :: q :: seg) := fun x hx => by
  rcases List.mem_cons.mp hx with rfl | hx
  · exact N _ (.head _)
  · rcases List.mem_cons.mp hx with rfl | hx
    · exact N _ (.tail _ (.head _))
    · rcases List.mem_cons.mp hx with rfl | hx
      · exact N _ (.tail _ (.tail _ m))
      · exact N _ (.tail _ (.tail _ hx))
-- two tasks wait, those of a list of the ledger
theorem wait2_c {h₀ h : Heap} {L tl a b : Addr} {k : Nat} {news : List (Addr × Obj)} (_ : News h₀ L h news) (_ : (tl, listOf #[.ref a, .ref b] k) ∈ news) (w : World) (P : CC) (nr n : Nat) :
    CtM Mine.kx.heap_1 w 389 (fun h => P.at h ∧ h.get? P.rl = some (listOf #[] nr) ∧ h.IsList tl #[.ref a, .ref b]) 2 80 [.ref P.X, .ref tl] [(P.wl, listOf #[] n)] (PWait P [.ref b, .ref a]) :=
  wait_c w P [] [] [.ref a, .ref b] tl nr n (Nat.zero_le _) (Nat.zero_le _) (Nat.le_of_ble_eq_true rfl)
theorem run_comp_c (w : World) (P : CC) (v : Value) (cs : List Int) (hcl : cs.length ≤ 3) (seg : List (Addr × Obj)) (hn : NodeIn seg v cs) (n n2 : Nat) (hd1 : @Ne Nat P.rl P.wl) :
    CtM Mine.kx.heap_1 w 396 (fun h => P.at h ∧ ∀ q ∈ seg, h.get? q.1 = some q.2) 8 400 [.ref P.X, v] [(P.rl, listOf #[] n), (P.wl, listOf #[] n2)] (PComp P cs) := by
  ((first | (k_dflt (refine' CtM.mkP ?qk6 ?qk7 ?qk9 ?qkB ?qkz ?qc2 ?qc3 ?qc4 ?qc5 ?_; (((((case qk6 => k_is); (case qk7 => k_is); (case qk9 => rfl); (case qc2 => exact rfl); (case qc3 => exact rfl); (case qc4 => exact rfl))); (case qc5 => decide +kernel); (case qkB => exact locs rfl); (case qkz => dsimp only [List.map, List.zip, List.zipWith, List.reverse, List.reverseAux]; try exact rfl); k_whole))); intro p loose mean mg mb dp un gd env outer base sh sg sd so Q E hdp hu g₁ L₁ h₁ tk₁ mm nw F₁ N₁ B₁ X₁ T₁ G₁ lt₁ hp hret A₁ qk ek gk; have bo := BnOn.mk; have bd : Bnd mm := Bnd.mk; have bd : Bnd nw := Bnd.mk) | (k_dflt (refine' CtM.mkC ?qk6 ?qk7 ?qk9 ?qkB ?qkD ?qc2 ?qc3 ?qc4 ?_; (((((case qk6 => k_is); (case qk7 => k_is); (case qk9 => rfl); (case qc2 => exact rfl); (case qc3 => exact rfl); (case qc4 => exact rfl))); (case qkB => exact rfl); (case qkD => decide +kernel); k_whole))); intro p loose mean mg mb dp un gd env outer base sh sg sd so Q E hdp hu g₁ L₁ h₁ tk₁ cells₁ mm F₁ N₁ Y₁ B₁ X₁ T₁ G₁ lt₁ hp hret A₁ qk ek gk; have bo := BnOn.mk; have bd : Bnd mm := Bnd.mk; k_cells Y₁; (try simp only [List.cons_append, List.nil_append] at N₁); (try (fail "bn"; rename News _ _ _ _ => N₁)))))
  obtain ⟨hP, hg⟩ := hp
  obtain ⟨hX, hC⟩ := id hP
  repeat' ((fail_if_success (with_reducible show Q _ _)); first | fail "unf" | (k_end; wrow_close) | ((with_reducible show wpAny _ _ (call (Value.builtin _) _) _ _ _); first | ((k_here; (with_reducible show wpAny _ _ (call (Value.builtin _) [Value.ref _, _]) _ _ _); k_dflt (refine' append_K ?qk1 ?qk2 ?qk3 ?_ ?qz; (case qk1 => k_asm); (case qk2 => k_asm); (case qk3 => k_upd); (case qz => ((rw [PySem.sizeLine_eq]); (simp only [List.size_toArray, List.length_append, List.length_cons, List.length_nil, Array.size_push]); omega)); k_whole); intro h' F' N'; (try k_sweep))) | ((k_here; (with_reducible show wpAny _ _ (call (Value.builtin _) [Value.ref _]) _ _ _); k_dflt (refine' kl_pop ?qF ?qN ?qe ?qU ?qz ?_; (case qF => k_asm); (case qN => k_asm); (case qU => k_upd); (case qe => first | exact kpa_last (Value.ref t) (Value.ref d :: q) | rfl); (case qz => ((rw [PySem.sizeLine_eq]); (simp only [List.length_append, List.length_cons, List.length_nil]); omega))); (intro h' F' N'; (try dsimp only [List.nil_append, List.cons_append] at N'); (try k_sweep)))) | fail) | ((with_reducible show wpAny _ _ (compareOp _ (Value.ref _) _) _ _ _); first | ((k_here; (with_reducible show wpAny _ _ (compareOp CmpOp.NotEq (Value.ref _) (Value.ref _)) _ _ _); k_dflt (first | (refine' ne_len ?qk1 ?qk2 ?qk3 ?_; (case qk1 => exact News.isList (by k_asm) (by k_mem)); (case qk2 => exact News.isList (by k_asm) (by k_mem)); (case qk3 => units_room); k_whole) | (refine' ne_nil ?qk1 ?qk2 ?qk3 ?_; (case qk1 => exact News.isList (by k_asm) (by k_mem)); (case qk2 => exact News.isList (by k_asm) (by k_mem)); (case qk3 => units_room); k_whole)))) | fail) | ((with_reducible show wpAny _ _ (call (Value.ref _) _) _ _ _); first | ((k_here; (with_reducible show wpAny _ _ (call (Value.ref 401) [_, Value.ref nt]) _ _ _); k_dflt ((fail "fq"; refine' CtM.useR (node_seq_c w P [] [Value.ref d] vs nt tt ts9 k4 k5 _ _ (Nat.zero_le _) (Nat.le_of_ble_eq_true rfl) hvs) ?qzB ?qzF ?qzX ?qzN ?qzT ?qzK1 ?qzK ?qzR ?qzp ?qzd ?qzu ?_); (case qzB => k_asm); (case qzF => k_asm); (case qzX => k_asm); (case qzN => k_asm); (case qzT => k_asm); (case qzK1 => first | exact rfl | assumption); (case qzK => first | exact rfl | assumption); (case qzR => fail "mine rems"); (case qzp => (intro g2 G2 S2; exact ⟨hP.keeps S2, G2 _ _ (News.get (by k_asm) (by k_mem)) (by simp; k_ne), S2 _ _ hnt, S2 _ _ htt⟩)); (case qzd => ktr_room); (case qzu => ktr_units); (intro cv ch ctk cG F9 N9 cO cP; obtain ⟨cV, tsk, n9, cN, cp3⟩ := cP; obtain ⟨sg9, cS9, cT9⟩ := cN.seg; replace N9 := news_put N9 cp3 (cO _ (List.Mem.head _)); obtain ⟨N8, nn9⟩ := seg_onto (by k_asm) (by k_asm) N9 cS9; clear N9 cG cO cp3 cN cS9; subst cV; (simp only [List.nil_append, List.cons_append] at N8); (try k_sweep); (try dsimp only); (try k_fold))))) | ((k_here; (with_reducible show wpAny _ _ (call (Value.ref 401) _) _ _ _); k_dflt ((fail "fq"; refine' CtM.useR (node_char_c w P rv p c tr9 tc9 k4 _ ?qzs1) ?qzB ?qzF ?qzX ?qzN ?qzT ?qzK1 ?qzK ?qzR ?qzp ?qzd ?qzu ?_); (case qzB => k_asm); (case qzF => k_asm); (case qzX => k_asm); (case qzN => k_asm); (case qzT => k_asm); (case qzK1 => first | exact rfl | assumption); (case qzK => first | exact rfl | assumption); (case qzR => fail "mine rems"); (case qzs1 => omega); (case qzp => (intro g2 G2 S2; exact ⟨hP.keeps S2, S2 _ _ hpc⟩)); (case qzd => ktr_room); (case qzu => ktr_units); (intro cv ch ctk cG F9 N9 cO cP; obtain ⟨cV, t9, tr8, tc8, n9, n92, cp3, cp4, cp5⟩ := cP; replace N9 := news_put N9 cp3 (cO _ (List.Mem.head _)); obtain ⟨N8, nn9⟩ := fresh_onto (by k_asm) (by k_asm) N9 cp4 cp5; clear N9 cG cO cp3 cp4 cp5; subst cV; (try k_sweep); (try dsimp only); (try k_fold))))) | ((k_here; (with_reducible show wpAny _ _ (call (Value.ref 389) _) _ _ _); k_dflt ((rename News _ _ _ _ => lN'); (fail "fq"; refine' CtM.useR (wait2_c lN' (by k_mem) w P n n2) ?qzB ?qzF ?qzX ?qzN ?qzT ?qzK1 ?qzK ?qzR ?qzp ?qzd ?qzu ?_); (case qzB => k_asm); (case qzF => k_asm); (case qzX => k_asm); (case qzN => k_asm); (case qzT => k_asm); (case qzK1 => first | exact rfl | assumption); (case qzK => first | exact rfl | assumption); (case qzR => fail "mine rems"); (case qzp => (intro g2 G2 S2; exact ⟨hP.keeps S2, G2 _ _ (News.get (by k_asm) (by k_mem)) (by simp; k_ne), ⟨_, G2 _ _ (News.get lN' (by k_mem)) (by simp; k_ne), rfl, _, rfl⟩⟩)); (case qzd => ktr_room); (case qzu => ktr_units); (intro cv ch ctk cG F9 N9 cO cP; clear lN'; obtain ⟨cV, n9, cp3⟩ := PWait.out cP; replace N9 := news_put N9 cp3 (cO _ (List.Mem.head _)); clear cG cO cp3 cP; subst cV; (try k_sweep); (try dsimp only); (try k_fold))))) | ((k_here; k_dflt ((fail "mine useP"); (case qzB => k_asm); (case qzF => k_asm); (case qzX => k_asm); (case qzN => k_asm); (case qzT => k_asm); (case qzK1 => first | exact rfl | assumption); (case qzK => first | exact rfl | assumption); (case qzp => first | trivial | (exact ViewIn.keeps (Fr.keep (by k_asm)) (by assumption))); (case qzd => ktr_room); (case qzu => ktr_units); (focus (((first | (intro cv ch ctk cS F9 N9 cl cL cP; have cP1 := PI.out cP; clear cP cS; obtain ⟨ct9, cV⟩ := cP1; subst cV) | (intro cv ch ctk cS F9 N9 cl cL cP; have cP1 := PB.out cP; clear cP cS; subst cP1))); all_goals ((try k_sweep); (try dsimp only); (try k_fold))))))) | fail) | ((with_reducible show wpAny _ _ (exec (Stmt.While _ _ _ _) _) _ _ _); first | ((k_here; (rename Fr _ _ _ _ => lF'); (rename News _ _ _ _ => lN'); (obtain ⟨c₀, N7, q1, q2, hf0⟩ := run_start (P := P) lN' hn hg (by k_mem) (by k_mem) (by k_mem) (by k_mem) (by k_mem)); k_dflt (refine' ksw_while (RC.led P) (fun _ => []) (fun c : RC => AllNe P.rl c.seg ∧ AllNe P.wl c.seg ∧ FRun P g₁ cs c.seg c.ph c.ts c.rv) [Str.ofString "word", Str.ofString "thing"] (fun _ => True) (fun c : RC => if c.ph then 10 else c.ts.length) c₀ lF' N7 ⟨q1, q2, hf0⟩ ?qkk trivial ?_; (case qkk => kst_all); clear lF' lN' N7 q1 q2 hf0; intro c' u' h' tk' hf' hp' F' N'; obtain ⟨ph, tl, rv, n', n2', sg⟩ := c'; (dsimp only [kstB, RC.led] at F' N' hf'); clear hp'; have q1 := hf'.1; have q2 := hf'.2.1; replace hf' := hf'.2.2; revert N'; apply FRun.splitG q1 q2 hcl hf'; (intro d dn t nt tt a9 b9 e9 ts9 k1 k2 k3 k4 k5 vs m1 m2 m3 hnt htt hC hvs ne1 ne2 N'; clear hf'; replace N' := news_dup N' m3; (((first | k_unfold | (k_unmd; k_unfold) | skip); (try fail "nrm"); (try k_fold); (try (fail_if_success (fail_if_success (have bq : BnOn := by with_reducible assumption)); (try fail "bm"); (try fail "bn")))))); rotate_left; (intro d dn t p a9 b9 e9 tr9 tc9 k1 k2 k3 k4 c c1 c2 q ts vs rv hq hql hrl m1 m2 m3 hpc hT hC hR hcs ne1 ne2 N'; clear hf'; replace N' := news_dup N' m3; (((first | k_unfold | (k_unmd; k_unfold) | skip); (try fail "nrm"); (try k_fold); (try (fail_if_success (fail_if_success (have bq : BnOn := by with_reducible assumption)); (try fail "bm"); (try fail "bn")))))); rotate_left; (intro d dn a9 b9 k1 k2 rv hrl m3 m2 hR ne1 ne2 N'; clear hf'; replace N' := news_dup N' m3; (((first | k_unfold | (k_unmd; k_unfold) | skip); (try fail "nrm"); (try k_fold); (try (fail_if_success (fail_if_success (have bq : BnOn := by with_reducible assumption)); (try fail "bm"); (try fail "bn")))))); rotate_left; (intro dn b9 k1 r0 m2 hR N'; clear hf'; (((first | k_unfold | (k_unmd; k_unfold) | skip); (try fail "nrm"); (try k_fold); (try (fail_if_success (fail_if_success (have bq : BnOn := by with_reducible assumption)); (try fail "bm"); (try fail "bn")))))); rotate_left))) | fail) | walk1 | (dsimp only; walk1) | (leave1; try dsimp only) | (dsimp only) | fail "no step")
  · refine' ksw_end (⟨false, .ref d :: tsk.reverse, [], n', n9, sg ++ sg9⟩ : RC) ?qzF ?qzN ?qzhn ?qzhf ?qzhk ?qzhr trivial ?qzhm
    case qzF => k_asm
    case qzN => k_asm
    case qzhn => (intro x9 hx9; dsimp only [RC.led] at hx9; rcases List.mem_cons.mp hx9 with rfl | hx9; (k_mem); rcases List.mem_cons.mp hx9 with rfl | hx9; (k_mem); first | (rcases List.mem_cons.mp hx9 with rfl | hx9; (k_mem); repeat first | exact hx9 | apply List.Mem.tail) | repeat first | exact hx9 | apply List.Mem.tail)
    case qzhf =>
      have g1 : ∀ q ∈ sg, q ∈ sg ++ sg9 := fun q hq => List.mem_append.mpr (.inl hq)
      exact ⟨allNe_app q1 (nn9 (P.rl, _) (by k_mem)), allNe_app q2 (nn9 (P.wl, _) (by k_mem)), .more (c1 := []) (g1 _ m1) (g1 _ m2) (cT9.mono fun q hq => List.mem_append.mpr (.inr hq)) hC .nil rfl⟩
    case qzhk => kst_all
    case qzhr => ksw_same
    case qzhm =>
      have h1 := cT9.len
      simp only [Bool.false_eq_true, if_false, if_true, List.length_cons, List.length_reverse]
      omega
  · refine' ksw_end (⟨false, .ref d :: q, rv ++ [.ref t9], n9, n2' + 1, (t9, tupOf #[.str (Str.ofString "char") tr8, .int (fo P.folds c) tc8] n92) :: sg⟩ : RC) ?qzF ?qzN ?qzhn ?qzhf ?qzhk ?qzhr trivial ?qzhm
    case qzF => k_asm
    case qzN => k_asm
    case qzhn => (intro x9 hx9; dsimp only [RC.led] at hx9; rcases List.mem_cons.mp hx9 with rfl | hx9; (k_mem); rcases List.mem_cons.mp hx9 with rfl | hx9; (k_mem); first | (rcases List.mem_cons.mp hx9 with rfl | hx9; (k_mem); repeat first | exact hx9 | apply List.Mem.tail) | repeat first | exact hx9 | apply List.Mem.tail)
    case qzhf =>
      have g1 : ∀ {o : Obj}, ∀ q ∈ sg, q ∈ (t9, o) :: sg := fun q hq => .tail _ hq
      have e1 : (c1 ++ [c]).map (fo P.folds) = c1.map (fo P.folds) ++ [fo P.folds c] := by rw [List.map_append]; rfl
      refine ⟨⟨(AllNe.ne nn9 (by k_mem)).symm, q1⟩, ⟨(AllNe.ne nn9 (by k_mem)).symm, q2⟩, ?_⟩
      rw [hq]
      refine .more (c1 := c1 ++ [c]) (g1 _ m1) (g1 _ m2) (hT.mono g1) hC ?_ (by rw [hcs, List.append_assoc]; rfl)
      rw [e1]
      exact .snoc (hR.mono g1) (.head _)
    case qzhk => kst_all
    case qzhr => ksw_same
    case qzhm =>
      simp only [Bool.false_eq_true, if_false, List.length_cons, List.length_append, List.length_nil]
      omega
  · refine' ksw_end (⟨false, [], rv ++ [.ref dn], n' + 1, n2' + 1, sg⟩ : RC) ?qzF ?qzN ?qzhn ?qzhf ?qzhk ?qzhr trivial ?qzhm
    case qzF => k_asm
    case qzN => rename News _ _ _ _ => lN9; (try dsimp +zetaDelta only at lN9); simp only [List.push_toArray] at lN9; exact lN9
    case qzhn => (intro x9 hx9; dsimp only [RC.led] at hx9; rcases List.mem_cons.mp hx9 with rfl | hx9; (k_mem); rcases List.mem_cons.mp hx9 with rfl | hx9; (k_mem); first | (rcases List.mem_cons.mp hx9 with rfl | hx9; (k_mem); repeat first | exact hx9 | apply List.Mem.tail) | repeat first | exact hx9 | apply List.Mem.tail)
    case qzhf => exact ⟨q1, q2, .over m2 hR⟩
    case qzhk => kst_all
    case qzhr => ksw_same
    case qzhm =>
      simp only [Bool.false_eq_true, if_false, List.length_cons, List.length_nil]
      omega
  · ((refine hret _ _ _ _ (by k_asm) ?_))
    rename News _ _ _ _ => lN9; (try dsimp +zetaDelta only at lN9)
    have k9 : ∀ q ∈ sg, _ ∧ _ := fun q hq => ⟨(lN9 q (by repeat first | exact hq | apply List.Mem.tail)).1, gfresh G₁ lN9 (by repeat first | exact hq | apply List.Mem.tail) (by simp; exact ⟨q1.all q hq, q2.all q hq⟩)⟩
    have r9 := hR.out k9 (RowsF.done (k9 _ m2).1 (k9 _ m2).2)
    rw [List.append_nil] at r9
    exact ⟨rfl, _, _, r9, lN9.get (by k_mem)⟩
end
section
theorem RowsAt.item {h : Heap} : ∀ {cs : List Int} {vs : List Value} {i : Nat} {v : Value}, RowsAt h cs vs → vs[i]? = some v →
    (∃ (t : Addr) (c : Int) (tr tc : Tok) (n : Nat), v = .ref t ∧ h.get? t = some (tupOf #[.str (Str.ofString "char") tr, .int c tc] n)) ∨ ∃ (t : Addr) (tk : Tok) (n : Nat), v = .ref t ∧ h.get? t = some (tupOf #[.str (Str.ofString "done") tk] n)
  | [], vs, i, v, ⟨td, tk, n, e, e2⟩, hv => by
    subst e
    cases i with
    | zero => cases hv; exact .inr ⟨td, tk, n, rfl, e2⟩
    | succ i => cases hv
  | c :: cs, vs, i, v, ⟨t, tr, tc, n, rest, e, e2, r⟩, hv => by
    subst e
    cases i with
    | zero => cases hv; exact .inl ⟨t, c, tr, tc, n, rfl, e2⟩
    | succ i => exact RowsAt.item r hv
theorem RowsAt.len {h : Heap} : ∀ {cs : List Int} {vs : List Value}, RowsAt h cs vs → vs.length = cs.length + 1
  | [], _, ⟨_, _, _, e, _⟩ => by rw [e]; rfl
  | _ :: _, _, ⟨_, _, _, _, _, e, _, r⟩ => by rw [e, List.length_cons, r.len, List.length_cons]
noncomputable def PList (ws : List Value) (h h' : Heap) (v : Value) : Prop := ∃ (l : Addr) (n : Nat), v = .ref l ∧ h'.get? l = some (listOf ws.toArray n) ∧ h.get? l = none
theorem settled_c (w : World) (P : CC) (cs : List Int) (rv : List Value) (nr : Nat) (hcl : cs.length ≤ 3) :
    CtP Mine.kx.heap_1 w 436 (fun h => P.at h ∧ h.get? P.rl = some (listOf rv.toArray nr) ∧ RowsAt h cs rv) 2 80 [.ref P.X] (PList rv) := by
  ((first | (k_dflt (refine' CtP.mkP ?qk6 ?qk7 ?qk9 ?qkB ?qkz ?qc2 ?qc3 ?qc4 ?qc5 ?_; (((((case qk6 => k_is); (case qk7 => k_is); (case qk9 => rfl); (case qc2 => exact rfl); (case qc3 => exact rfl); (case qc4 => exact rfl))); (case qc5 => decide +kernel); (case qkB => exact locs rfl); (case qkz => dsimp only [List.map, List.zip, List.zipWith, List.reverse, List.reverseAux]; try exact rfl); k_whole))); intro p loose mean mg mb dp un gd env outer base sh sg sd so Q E hdp hu hp hret L₁ h₁ tk₁ mm F₁ N₁ B₁ X₁ T₁ A₁ qk ek gk; have bo := BnOn.mk; have bd : Bnd mm := Bnd.mk) | (k_dflt (refine' CtP.mkC ?qk6 ?qk7 ?qk9 ?qkB ?qkD ?qc2 ?qc3 ?qc4 ?_; (((((case qk6 => k_is); (case qk7 => k_is); (case qk9 => rfl); (case qc2 => exact rfl); (case qc3 => exact rfl); (case qc4 => exact rfl))); (case qkB => exact rfl); (case qkD => decide +kernel); k_whole))); intro p loose mean mg mb dp un gd env outer base sh sg sd so Q E hdp hu hp hret L₁ h₁ tk₁ cells₁ mm F₁ N₁ Y₁ B₁ X₁ T₁ A₁ qk ek gk; have bo := BnOn.mk; have bd : Bnd mm := Bnd.mk; k_cells Y₁; (try (fail "bn"; rename News _ _ _ _ => N₁)))))
  obtain ⟨⟨hX, hC⟩, hrl, hR⟩ := hp
  have hrL : sh.IsList P.rl rv.toArray := ⟨_, hrl, rfl, nr, rfl⟩
  have hrl3 := hR.len
  repeat' ((fail_if_success (with_reducible show Q _ _)); first | fail "unf" | (k_end; wrow_close) | ((with_reducible show wpAny _ _ (exec (Stmt.For _ _ _ _ _) _) _ _ _); first | ((k_here; (rename Fr _ _ _ _ => lF'); (with_unfolding_all refine' For_invVF lF' ?qk1 ?qk2 ?_; (case qk1 => exact rfl); (case qk2 => exact rfl)); (try k_fold))) | fail) | ((with_reducible show @ite _ _ _ _ _); first | (first | refine iteF ?_ | refine iteT ?_ | fail) | fail) | ((with_reducible show wpAny _ _ (call (Value.builtin _) _) _ _ _); first | ((k_here; (with_reducible show wpAny _ _ (call (Value.builtin _) [Value.ref _, _]) _ _ _); k_dflt (refine' append_K ?qk1 ?qk2 ?qk3 ?_ ?qz; (case qk1 => k_asm); (case qk2 => k_asm); (case qk3 => k_upd); (case qz => ((rw [PySem.sizeLine_eq]); (simp only [List.size_toArray, List.length_append, List.length_cons, List.length_nil, Array.size_push]); omega)); k_whole); intro h' F' N'; (try k_sweep))) | fail) | ((with_reducible show wpAny _ _ (call (Value.ref _) _) _ _ _); first | ((k_here; k_dflt ((fail "mine useP"); (case qzB => k_asm); (case qzF => k_asm); (case qzX => k_asm); (case qzN => k_asm); (case qzT => k_asm); (case qzK1 => first | exact rfl | assumption); (case qzK => first | exact rfl | assumption); (case qzp => first | trivial | (exact ViewIn.keeps (Fr.keep (by k_asm)) (by assumption))); (case qzd => ktr_room); (case qzu => ktr_units); (focus (((first | (intro cv ch ctk cS F9 N9 cl cL cP; have cP1 := PI.out cP; clear cP cS; obtain ⟨ct9, cV⟩ := cP1; subst cV) | (intro cv ch ctk cS F9 N9 cl cL cP; have cP1 := PB.out cP; clear cP cS; subst cP1))); all_goals ((try k_sweep); (try dsimp only); (try k_fold))))))) | fail) | ((with_reducible show wpAny _ _ (pyIter (Value.ref _)) _ _ _); k_dflt ((((rename News _ _ _ _ => lN'); (obtain ⟨l9, rfl, lN9⟩ := News.first lN'); refine' list_S [] (fun st : List Value × Nat => [(l9, W.listOf st.1.toArray st.2)]) (fun i st => st.1 = rv.take i ∧ st.1.length ≤ 5) ([], 0) rfl hrL (by assumption) lN9 ⟨rfl, Nat.zero_le _⟩ (fun i' v' u' st' h' tk' I' oI' hv' hP' hoff' F' N' => ?_) (fun u' st' h' tk' hP' F' N' => ?_); (((refine foldG ?_; intro gk))); (obtain ⟨st1, st2⟩ := st'); (obtain ⟨hq1, hq2⟩ := hP'); (dsimp only at hq1 hq2 F' N' hoff'); (simp only [List.cons_append, List.nil_append] at N' hoff'); (rcases hR.item (by simpa using hv') with ⟨t9, c9, tr9, tc9, n9, rfl, e9⟩ | ⟨t9, tr9, n9, rfl, e9⟩); (rotate_left; have hT9 : IsTup sh t9 #[.str (Str.ofString "done") tr9] := ⟨_, e9, rfl, n9, rfl⟩; rotate_right; have hT9 : IsTup sh t9 #[.str (Str.ofString "char") tr9, .int c9 tc9] := ⟨_, e9, rfl, n9, rfl⟩); all_goals ((((first | k_unfold | (k_unmd; k_unfold) | skip); (try fail "nrm"); (try k_fold); (try (fail_if_success (fail_if_success (have bq : BnOn := by with_reducible assumption)); (try fail "bm"); (try fail "bn")))))))))) | walk1 | (dsimp only; walk1) | (leave1; try dsimp only) | (dsimp only) | fail "no step")
  iterate 2
    · rename News _ _ _ _ => N9; (try dsimp +zetaDelta only at N9)
      simp only [List.push_toArray] at N9
      refine' js_end ((st1 ++ [_], st2 + 1) : List Value × Nat) ?qzF ?qzN ?qzhI ?qzhn ?qzho ?qzhm ?qzhP
      case qzF => k_asm
      case qzN => exact N9
      case qzhI => k_mem
      case qzhn => lcg_sub
      case qzho => k_all
      case qzhm => ((intro z h1 h2; (try dsimp +zetaDelta only); (simp only [List.contains_cons, List.contains_nil, Bool.or_false, Bool.or_eq_false_iff, beq_eq_false_iff_ne, ne_eq] at h1 h2); (simp [h1, h2]; done)))
      case qzhP => exact ⟨by dsimp only; rw [hq1]; exact take_snoc hv', by dsimp only; rw [hq1, take_snoc hv', List.length_take]; omega⟩
  · ((refine hret _ _ _ (Fr.keep (by k_asm)) ?_))
    obtain ⟨st1, st2⟩ := st'
    obtain ⟨hq1, hq2⟩ := hP'
    rename News _ _ _ _ => N'; (try dsimp +zetaDelta only at N'); dsimp only at hq1
    rw [List.size_toArray, List.take_length] at hq1
    subst hq1
    exact ⟨l9, _, rfl, News.get N' (List.Mem.head _), nfresh N' (List.Mem.head _)⟩
noncomputable def PCode (cs : List Int) (folds : Bool) (_ h' : Heap) (v : Value) : Prop := ∃ P : MP, v = .ref P.code ∧ P.folds = folds ∧ CodeIn P h' ∧ RowsIn h' P.rows (cs.map (fo folds))
end
section
local macro_rules | `(tactic| k_lt $h) => `(tactic| (replace $h := allLt_of $h; simp only [AllLt, and_true] at $h:ident))
-- rows of a ledger
inductive RowsS (seg : List (Addr × Obj)) : List Int → List Value → Prop
  | done {td : Addr} {tk : Tok} {n : Nat} : (td, tupOf #[.str (Str.ofString "done") tk] n) ∈ seg → RowsS seg [] [.ref td]
  | cons {t : Addr} {tr tc : Tok} {n : Nat} {c : Int} {cs : List Int} {vs : List Value} : (t, tupOf #[.str (Str.ofString "char") tr, .int c tc] n) ∈ seg → RowsS seg cs vs → RowsS seg (c :: cs) (.ref t :: vs)
theorem RowsS.mono {seg seg' : List (Addr × Obj)} (k : ∀ q ∈ seg, q ∈ seg') {cs : List Int} {vs : List Value} (r : RowsS seg cs vs) : RowsS seg' cs vs := by
  induction r with
  | done m => exact .done (k _ m)
  | cons m _ ih => exact .cons (k _ m) ih
theorem RowsS.at {seg : List (Addr × Obj)} {h : Heap} (k : ∀ q ∈ seg, h.get? q.1 = some q.2) {cs : List Int} {vs : List Value} (r : RowsS seg cs vs) : RowsAt h cs vs := by
  induction r with
  | done m => exact ⟨_, _, _, rfl, k _ m⟩
  | cons m _ ih => exact ⟨_, _, _, _, _, rfl, k _ m, ih⟩
theorem RowsF.seg {h h' : Heap} {cs : List Int} {vs : List Value} (r : RowsF h h' cs vs) : ∃ seg, Seg seg h h' ∧ RowsS seg cs vs := by
  induction r with
  | done a b => exact ⟨[(_, _)], fun q hq => by rw [List.mem_singleton.mp hq]; exact ⟨a, b⟩, .done (.head _)⟩
  | cons a b _ ih =>
    obtain ⟨seg, s1, s2⟩ := ih
    exact ⟨(_, _) :: seg, fun q hq => by
      rcases List.mem_cons.mp hq with rfl | hq
      · exact ⟨a, b⟩
      · exact s1 q hq, .cons (.head _) (s2.mono fun _ h => .tail _ h)⟩
theorem cc_newL {G : Prop} {h₀ h : Heap} {L x dC rl pl wl : Addr} {folds : Bool} {news : List (Addr × Obj)} {h0 h1 h2 h3 h4 h5 : Int} {t0 t1 t2 t3 t4 t5 t6 t7 : Tok} {n n2 : Nat} (N : News h₀ L h news)
    (m1 : (dC, dictOf [⟨h0, .str (Str.ofString "folds") t0, .bool folds⟩, ⟨h1, .str (Str.ofString "rows") t1, .ref rl⟩, ⟨h2, .str (Str.ofString "places") t2, .ref pl⟩, ⟨h3, .str (Str.ofString "labels") t3, .int 0 t6⟩, ⟨h4, .str (Str.ofString "marks") t4, .int 0 t7⟩, ⟨h5, .str (Str.ofString "waiting") t5, .ref wl⟩] 6) ∈ news)
    (m2 : (x, instObj 439 dC) ∈ news) (m3 : (rl, listOf #[] n) ∈ news) (m4 : (wl, listOf #[] n2) ∈ news) (hne : @Ne Nat rl wl)
    (k : let P : CC := ⟨fun i => [h0, h1, h2, h3, h4, h5].getD i 0, fun i => [t0, t1, t2, t3, t4, t5, t6, t7].getD i 0, x, dC, rl, pl, wl, folds⟩;
      @Ne Nat P.rl P.wl → @Ne Nat P.dC P.rl → @Ne Nat P.dC P.wl → @Ne Nat P.X P.rl → @Ne Nat P.X P.wl →
      News h₀ L h [(P.rl, listOf #[] n), (P.wl, listOf #[] n2), (P.X, instObj 439 P.dC), (P.dC, P.dict)] → G) : G := by
  have ne : ∀ {a b : Addr} {o o' : Obj}, (a, o) ∈ news → (b, o') ∈ news → o ≠ o' → @Ne Nat a b := fun {a b o o'} h1 h2 h3 e => by
    have e1 := (N _ h1).1; have e2 := (N _ h2).1
    dsimp only at e1 e2
    have e' : a = b := e
    rw [e', e2] at e1; exact h3 (Option.some.inj e1).symm
  refine k (hne) (ne m1 m3 (by intro e; have e := congrArg Obj.data e; cases e)) (ne m1 m4 (by intro e; have e := congrArg Obj.data e; cases e)) (ne m2 m3 (by intro e; have e := congrArg Obj.data e; cases e)) (ne m2 m4 (by intro e; have e := congrArg Obj.data e; cases e)) ?_
  intro q hq
  simp only [List.mem_cons, List.not_mem_nil, or_false] at hq
  rcases hq with rfl | rfl | rfl | rfl
  · exact N _ m3
  · exact N _ m4
  · exact N _ m2
  · exact N _ m1
theorem code_new {h₀ h : Heap} {L x d l : Addr} {folds : Bool} {news : List (Addr × Obj)} {h0 h1 h2 h3 : Int} {t0 t1 t2 t3 t4 t5 : Tok} {ws : List Value} {n : Nat} (N : News h₀ L h news)
    (m1 : (d, dictOf [⟨h0, .str (Str.ofString "rows") t0, .ref l⟩, ⟨h1, .str (Str.ofString "groups") t1, .int 0 t4⟩, ⟨h2, .str (Str.ofString "marks") t2, .int 0 t5⟩, ⟨h3, .str (Str.ofString "folds") t3, .bool folds⟩] 4) ∈ news) (m2 : (x, instObj 357 d) ∈ news) (m3 : (l, listOf ws.toArray n) ∈ news) :
    ∃ P : MP, P.code = x ∧ h.get? P.rows = some (listOf ws.toArray n) ∧ P.folds = folds ∧ CodeIn P h :=
  ⟨⟨fun _ => 0, fun _ => 0, fun i => [h0, h1, h2, h3].getD i 0, fun i => [t0, t1, t2, t3, t4, t5].getD i 0, x, d, l, 0, 0, 0, .none, folds⟩, rfl, (N _ m3).1, rfl, (N _ m2).1, (N _ m1).1⟩
theorem compile_node_c (w : World) (v : Value) (cs : List Int) (folds : Bool) (tg : Tok) (hcl : cs.length ≤ 3) (seg : List (Addr × Obj)) (hn : NodeIn seg v cs) :
    CtP Mine.kx.heap_1 w 450 (fun h => ∀ q ∈ seg, h.get? q.1 = some q.2) 12 600 [v, .int 0 tg, .bool folds] (PCode cs folds) := by
  ((first | (k_dflt (refine' CtP.mkP ?qk6 ?qk7 ?qk9 ?qkB ?qkz ?qc2 ?qc3 ?qc4 ?qc5 ?_; (((((case qk6 => k_is); (case qk7 => k_is); (case qk9 => rfl); (case qc2 => exact rfl); (case qc3 => exact rfl); (case qc4 => exact rfl))); (case qc5 => decide +kernel); (case qkB => exact locs rfl); (case qkz => dsimp only [List.map, List.zip, List.zipWith, List.reverse, List.reverseAux]; try exact rfl); k_whole))); intro p loose mean mg mb dp un gd env outer base sh sg sd so Q E hdp hu hp hret L₁ h₁ tk₁ mm F₁ N₁ B₁ X₁ T₁ A₁ qk ek gk; have bo := BnOn.mk; have bd : Bnd mm := Bnd.mk) | (k_dflt (refine' CtP.mkC ?qk6 ?qk7 ?qk9 ?qkB ?qkD ?qc2 ?qc3 ?qc4 ?_; (((((case qk6 => k_is); (case qk7 => k_is); (case qk9 => rfl); (case qc2 => exact rfl); (case qc3 => exact rfl); (case qc4 => exact rfl))); (case qkB => exact rfl); (case qkD => decide +kernel); k_whole))); intro p loose mean mg mb dp un gd env outer base sh sg sd so Q E hdp hu hp hret L₁ h₁ tk₁ cells₁ mm F₁ N₁ Y₁ B₁ X₁ T₁ A₁ qk ek gk; have bo := BnOn.mk; have bd : Bnd mm := Bnd.mk; k_cells Y₁; (try (fail "bn"; rename News _ _ _ _ => N₁)))))
  repeat' ((fail_if_success (with_reducible show Q _ _)); first | fail "unf" | (k_end; wrow_close) | ((with_reducible show wpAny _ _ (call (Value.ref _) _) _ _ _); first | ((k_here; (with_reducible show wpAny _ _ (call (Value.ref 396) _) _ _ _); k_dflt ((rename News _ _ _ _ => lN'); (refine foldG ?_; intro gk; refine cc_newL lN' (by k_mem) (by k_mem) (by k_mem) (by k_mem) (by k_ne) ?_; intro P d1 d2 d3 d4 d5 N7; k_unfold); clear lN'; (fail "fq"; refine' CtM.useR (run_comp_c w P v cs hcl seg hn _ _ d1) ?qzB ?qzF ?qzX ?qzN ?qzT ?qzK1 ?qzK ?qzR ?qzp ?qzd ?qzu ?_); (case qzB => k_asm); (case qzF => k_asm); (case qzX => k_asm); (case qzN => exact N7); (case qzT => k_asm); (case qzK1 => first | exact rfl | assumption); (case qzK => first | exact rfl | assumption); (case qzR => fail "mine rems"); (case qzp => (intro g2 G2 S2; exact ⟨⟨G2 _ _ (N7.get (by k_mem)) (by simp; exact ⟨by k_ne, by k_ne⟩), G2 _ _ (N7.get (by k_mem)) (by simp; exact ⟨by k_ne, by k_ne⟩)⟩, fun q hq => S2 _ _ (hp q hq)⟩)); (case qzd => ktr_room); (case qzu => ktr_units); (intro cv ch ctk cG F9 N9 cO cP; obtain ⟨cV, rv, n9, cR, cD⟩ := cP; obtain ⟨seg9, cS9, cR9⟩ := cR.seg; replace N9 := news_put N9 cD (cO _ (List.Mem.head _)); obtain ⟨N8, nn9⟩ := seg_onto (by k_asm) N7 N9 cS9; clear N7 N9 cG cO cD cR cS9; subst cV; (simp only [List.cons_append, List.nil_append] at N8); (try k_sweep); (try dsimp only); (try k_fold))))) | ((k_here; k_dflt ((((fail "fq"; refine' CtP.use (settled_c w P (cs.map (fo P.folds)) rv _ (by rw [List.length_map]; exact hcl)) ?qzB ?qzF ?qzX ?qzN ?qzT ?qzK1 ?qzK ?qzp ?qzd ?qzu ?_))); (case qzB => k_asm); (case qzF => k_asm); (case qzX => k_asm); (case qzN => k_asm); (case qzT => k_asm); (case qzK1 => first | exact rfl | assumption); (case qzK => first | exact rfl | assumption); (case qzp => first | trivial | (first | (exact ⟨⟨News.get (by k_asm) (by k_mem), News.get (by k_asm) (by k_mem)⟩, News.get (by k_asm) (by k_mem), cR9.at (fun q hq => News.get (by k_asm) (by repeat first | exact hq | apply List.Mem.tail))⟩) | (exact ViewIn.keeps (Fr.keep (by k_asm)) (by assumption)))); (case qzd => ktr_room); (case qzu => ktr_units); (focus (((first | ((intro cv ch ctk cS F9 N9 cl cL cP; obtain ⟨l9, n9, cV, p1, p2⟩ := cP; obtain ⟨N8, m8⟩ := fresh_onto (by k_asm) (by k_asm) N9 p1 p2; clear cS cl cL N9 p1 p2; subst cV)) | (first | (intro cv ch ctk cS F9 N9 cl cL cP; have cP1 := PI.out cP; clear cP cS; obtain ⟨ct9, cV⟩ := cP1; subst cV) | (intro cv ch ctk cS F9 N9 cl cL cP; have cP1 := PB.out cP; clear cP cS; subst cP1)))); all_goals ((try k_sweep); (try dsimp only); (try k_fold))))))) | fail) | walk1 | (dsimp only; walk1) | (leave1; try dsimp only) | (dsimp only) | fail "no step")
  ((refine hret _ _ _ (Fr.keep (by k_asm)) ?_))
  rename News _ _ _ _ => lN'
  obtain ⟨M, e1, e2, e3, hC⟩ := code_new lN' (by k_mem) (by k_mem) (by k_mem)
  exact ⟨M, by rw [e1], e3, hC, rv, _, e2, cR9.at (fun q hq => lN'.get (by repeat first | exact hq | apply List.Mem.tail))⟩
theorem PParse.out {cs : List Int} {h h' : Heap} {v : Value} (p : PParse cs h h' v) : PParse cs h h' v := p
theorem compile_c (w : World) (l : Addr) (cs : List Int) (folds : Bool) (hcl : cs.length ≤ 3) (hcs : ∀ c ∈ cs, c = 66 ∨ c = 97 ∨ c = 98) :
    CtP Mine.kx.heap_1 w 457 (fun h => IntsIn h l cs) 14 800 [.ref l, .bool folds] (PCode cs folds) := by
  ((first | (k_dflt (refine' CtP.mkP ?qk6 ?qk7 ?qk9 ?qkB ?qkz ?qc2 ?qc3 ?qc4 ?qc5 ?_; (((((case qk6 => k_is); (case qk7 => k_is); (case qk9 => rfl); (case qc2 => exact rfl); (case qc3 => exact rfl); (case qc4 => exact rfl))); (case qc5 => decide +kernel); (case qkB => exact locs rfl); (case qkz => dsimp only [List.map, List.zip, List.zipWith, List.reverse, List.reverseAux]; try exact rfl); k_whole))); intro p loose mean mg mb dp un gd env outer base sh sg sd so Q E hdp hu hp hret L₁ h₁ tk₁ mm F₁ N₁ B₁ X₁ T₁ A₁ qk ek gk; have bo := BnOn.mk; have bd : Bnd mm := Bnd.mk) | (k_dflt (refine' CtP.mkC ?qk6 ?qk7 ?qk9 ?qkB ?qkD ?qc2 ?qc3 ?qc4 ?_; (((((case qk6 => k_is); (case qk7 => k_is); (case qk9 => rfl); (case qc2 => exact rfl); (case qc3 => exact rfl); (case qc4 => exact rfl))); (case qkB => exact rfl); (case qkD => decide +kernel); k_whole))); intro p loose mean mg mb dp un gd env outer base sh sg sd so Q E hdp hu hp hret L₁ h₁ tk₁ cells₁ mm F₁ N₁ Y₁ B₁ X₁ T₁ A₁ qk ek gk; have bo := BnOn.mk; have bd : Bnd mm := Bnd.mk; k_cells Y₁; (try (fail "bn"; rename News _ _ _ _ => N₁)))))
  repeat' ((fail_if_success (with_reducible show Q _ _)); first | fail "unf" | (k_end; wrow_close) | ((with_reducible show wpAny _ _ (call (Value.ref _) _) _ _ _); first | ((k_here; (with_reducible show wpAny _ _ (call (Value.ref 450) _) _ _ _); k_dflt ((fail "fq"; refine' CtP.use (compile_node_c w v8 cs folds _ hcl seg p4) ?qzB ?qzF ?qzX ?qzN ?qzT ?qzK1 ?qzK ?qzp ?qzd ?qzu ?_); (case qzB => k_asm); (case qzF => k_asm); (case qzX => k_asm); (case qzN => k_asm); (case qzT => k_asm); (case qzK1 => first | exact rfl | assumption); (case qzK => first | exact rfl | assumption); (case qzp => exact fun q hq => News.get (by k_asm) (by repeat first | exact hq | apply List.Mem.tail)); (case qzd => ktr_room); (case qzu => ktr_units); (intro cv ch ctk cS F9 N9 cl cL cP; clear cl cL cS; (try k_sweep); (try dsimp only); (try k_fold))))) | ((k_here; (with_reducible show wpAny _ _ (call (Value.ref 339) _) _ _ _); k_dflt ((fail "fq"; refine' CtP.use (parse_c w l cs hcl hcs) ?qzB ?qzF ?qzX ?qzN ?qzT ?qzK1 ?qzK ?qzp ?qzd ?qzu ?_); (case qzB => k_asm); (case qzF => k_asm); (case qzX => k_asm); (case qzN => k_asm); (case qzT => k_asm); (case qzK1 => first | exact rfl | assumption); (case qzK => first | exact rfl | assumption); (case qzp => exact IntsIn.keeps (Fr.keep (by k_asm)) hp); (case qzd => ktr_room); (case qzu => ktr_units); (intro cv ch ctk cS F9 N9 cl cL cP; obtain ⟨seg, pt, n8, tg, v8, cV, p1, p2, p3, p4⟩ := cP; obtain ⟨N7, m7⟩ := fresh_onto (by k_asm) (by k_asm) N9 p1 p2; obtain ⟨N8, m8⟩ := seg_onto (by k_asm) (by k_asm) N7 p3; clear cS cl cL N9 N7 p1 p2 p3; subst cV; (simp only [List.cons_append, List.nil_append] at N8); (try k_sweep); (try dsimp only); (try k_fold))))) | ((k_here; (with_reducible show wpAny _ _ (call (Value.ref 396) _) _ _ _); k_dflt ((rename News _ _ _ _ => lN'); (refine foldG ?_; intro gk; refine cc_newL lN' (by k_mem) (by k_mem) (by k_mem) (by k_mem) (by k_ne) ?_; intro P d1 d2 d3 d4 d5 N7; k_unfold); clear lN'; (fail "fq"; refine' CtM.useR (run_comp_c w P v cs hcl seg hn _ _ d1) ?qzB ?qzF ?qzX ?qzN ?qzT ?qzK1 ?qzK ?qzR ?qzp ?qzd ?qzu ?_); (case qzB => k_asm); (case qzF => k_asm); (case qzX => k_asm); (case qzN => exact N7); (case qzT => k_asm); (case qzK1 => first | exact rfl | assumption); (case qzK => first | exact rfl | assumption); (case qzR => fail "mine rems"); (case qzp => (intro g2 G2 S2; exact ⟨⟨G2 _ _ (N7.get (by k_mem)) (by simp; exact ⟨by k_ne, by k_ne⟩), G2 _ _ (N7.get (by k_mem)) (by simp; exact ⟨by k_ne, by k_ne⟩)⟩, fun q hq => S2 _ _ (hp q hq)⟩)); (case qzd => ktr_room); (case qzu => ktr_units); (intro cv ch ctk cG F9 N9 cO cP; obtain ⟨cV, rv, n9, cR, cD⟩ := cP; obtain ⟨seg9, cS9, cR9⟩ := cR.seg; replace N9 := news_put N9 cD (cO _ (List.Mem.head _)); obtain ⟨N8, nn9⟩ := seg_onto (by k_asm) N7 N9 cS9; clear N7 N9 cG cO cD cR cS9; subst cV; (simp only [List.cons_append, List.nil_append] at N8); (try k_sweep); (try dsimp only); (try k_fold))))) | ((k_here; k_dflt ((((fail "fq"; refine' CtP.use (settled_c w P (cs.map (fo P.folds)) rv _ (by rw [List.length_map]; exact hcl)) ?qzB ?qzF ?qzX ?qzN ?qzT ?qzK1 ?qzK ?qzp ?qzd ?qzu ?_))); (case qzB => k_asm); (case qzF => k_asm); (case qzX => k_asm); (case qzN => k_asm); (case qzT => k_asm); (case qzK1 => first | exact rfl | assumption); (case qzK => first | exact rfl | assumption); (case qzp => first | trivial | (first | (exact ⟨⟨News.get (by k_asm) (by k_mem), News.get (by k_asm) (by k_mem)⟩, News.get (by k_asm) (by k_mem), cR9.at (fun q hq => News.get (by k_asm) (by repeat first | exact hq | apply List.Mem.tail))⟩) | (exact ViewIn.keeps (Fr.keep (by k_asm)) (by assumption)))); (case qzd => ktr_room); (case qzu => ktr_units); (focus (((first | ((intro cv ch ctk cS F9 N9 cl cL cP; obtain ⟨l9, n9, cV, p1, p2⟩ := cP; obtain ⟨N8, m8⟩ := fresh_onto (by k_asm) (by k_asm) N9 p1 p2; clear cS cl cL N9 p1 p2; subst cV)) | (first | (intro cv ch ctk cS F9 N9 cl cL cP; have cP1 := PI.out cP; clear cP cS; obtain ⟨ct9, cV⟩ := cP1; subst cV) | (intro cv ch ctk cS F9 N9 cl cL cP; have cP1 := PB.out cP; clear cP cS; subst cP1)))); all_goals ((try k_sweep); (try dsimp only); (try k_fold))))))) | fail) | walk1 | (dsimp only; walk1) | (leave1; try dsimp only) | (dsimp only) | fail "no step")
  ((refine hret _ _ _ (Fr.keep (by k_asm)) ?_))
  exact cP
end
section
theorem PCode.out {cs : List Int} {folds : Bool} {h h' : Heap} {v : Value} (p : PCode cs folds h h' v) : PCode cs folds h h' v := p
theorem PF.back {o : Option (Int × Int)} {g h h' : Heap} {v : Value} (k : g.StaysIn h) (p : PF o h h' v) : PF o g h' v := by
  cases o with
  | none => exact p
  | some q =>
    obtain ⟨l, t, ta, tb, n1, n2, a, b, c, d, e, f⟩ := p
    exact ⟨l, t, ta, tb, n1, n2, a, b, c, none_back k d, none_back k e, f⟩
theorem string_match_c (w : World) (l tx : Addr) (cds cs : List Int) (folds : Bool) (start : Int) (ts : Tok) (tv : Value) (hcl : cs.length ≤ 3) (hcs : ∀ c ∈ cs, c = 66 ∨ c = 97 ∨ c = 98) (hst : 0 ≤ start ∧ start ≤ 100) (hlen : cds.length ≤ 100) :
    CtP Mine.kx.heap_1 w 672 (fun h => IntsIn h l cs ∧ IntsIn h tx cds) 16 1200 [.ref l, .ref tx, .int start ts, tv, .bool folds] (PF (reSearch cds 0 folds (cs.map (fo folds)) start cds.length)) := by
  ((first | (k_dflt (refine' CtP.mkP ?qk6 ?qk7 ?qk9 ?qkB ?qkz ?qc2 ?qc3 ?qc4 ?qc5 ?_; (((((case qk6 => k_is); (case qk7 => k_is); (case qk9 => rfl); (case qc2 => exact rfl); (case qc3 => exact rfl); (case qc4 => exact rfl))); (case qc5 => decide +kernel); (case qkB => exact locs rfl); (case qkz => dsimp only [List.map, List.zip, List.zipWith, List.reverse, List.reverseAux]; try exact rfl); k_whole))); intro p loose mean mg mb dp un gd env outer base sh sg sd so Q E hdp hu hp hret L₁ h₁ tk₁ mm F₁ N₁ B₁ X₁ T₁ A₁ qk ek gk; have bo := BnOn.mk; have bd : Bnd mm := Bnd.mk) | (k_dflt (refine' CtP.mkC ?qk6 ?qk7 ?qk9 ?qkB ?qkD ?qc2 ?qc3 ?qc4 ?_; (((((case qk6 => k_is); (case qk7 => k_is); (case qk9 => rfl); (case qc2 => exact rfl); (case qc3 => exact rfl); (case qc4 => exact rfl))); (case qkB => exact rfl); (case qkD => decide +kernel); k_whole))); intro p loose mean mg mb dp un gd env outer base sh sg sd so Q E hdp hu hp hret L₁ h₁ tk₁ cells₁ mm F₁ N₁ Y₁ B₁ X₁ T₁ A₁ qk ek gk; have bo := BnOn.mk; have bd : Bnd mm := Bnd.mk; k_cells Y₁; (try (fail "bn"; rename News _ _ _ _ => N₁)))))
  obtain ⟨hl, htx⟩ := hp
  obtain ⟨ws, hw, hwi⟩ := id htx
  repeat' ((fail_if_success (with_reducible show Q _ _)); first | fail "unf" | (k_end; wrow_close) | ((with_reducible show wpAny _ _ (call (Value.ref _) _) _ _ _); first | ((k_here; (with_reducible show wpAny _ _ (call (Value.ref 658) _) _ _ _); k_dflt ((fail "fq"; refine' CtP.use (re_search_c w ({ M with view := _, table := tv } : MP) cds (cs.map (fo folds)) 0 start _ ts _ _ ?qzs1 hst ?qzs2 hlen rfl) ?qzB ?qzF ?qzX ?qzN ?qzT ?qzK1 ?qzK ?qzp ?qzd ?qzu ?_); (case qzs1 => (rw [List.length_map]; exact hcl)); (case qzs2 => omega); (case qzB => k_asm); (case qzF => k_asm); (case qzX => k_asm); (case qzN => k_asm); (case qzT => k_asm); (case qzK1 => first | exact rfl | assumption); (case qzK => first | exact rfl | assumption); (case qzp => exact ⟨q2, ⟨_, _, ws, _, _, _, _, _, _, News.get (by k_asm) (by k_mem), News.get (by k_asm) (by k_mem), ⟨_, News.get (by k_asm) (by k_mem), rfl, _, rfl⟩, hwi, by omega, by omega⟩, q3⟩); (case qzd => ktr_room); (case qzu => ktr_units); (intro cv ch ctk cS F9 N9 cl cL cP; have cP2 := PF.back (Fr.keep (by k_asm)) cP; clear cl cL cS cP; (try k_sweep); (try dsimp only); (try k_fold))))) | ((k_here; (with_reducible show wpAny _ _ (call (Value.ref 457) _) _ _ _); k_dflt ((fail "fq"; refine' CtP.use (compile_c w l cs folds hcl hcs) ?qzB ?qzF ?qzX ?qzN ?qzT ?qzK1 ?qzK ?qzp ?qzd ?qzu ?_); (case qzB => k_asm); (case qzF => k_asm); (case qzX => k_asm); (case qzN => k_asm); (case qzT => k_asm); (case qzK1 => first | exact rfl | assumption); (case qzK => first | exact rfl | assumption); (case qzp => exact IntsIn.keeps (Fr.keep (by k_asm)) hl); (case qzd => ktr_room); (case qzu => ktr_units); (intro cv ch ctk cS F9 N9 cl cL cP; obtain ⟨M, cV, q1, q2, q3⟩ := PCode.out cP; clear cl cL cS cP; subst cV; (try k_sweep); (try dsimp only); (try k_fold))))) | ((k_here; k_dflt ((fail "mine useP"); (case qzB => k_asm); (case qzF => k_asm); (case qzX => k_asm); (case qzN => k_asm); (case qzT => k_asm); (case qzK1 => first | exact rfl | assumption); (case qzK => first | exact rfl | assumption); (case qzp => first | trivial | (exact ViewIn.keeps (Fr.keep (by k_asm)) (by assumption))); (case qzd => ktr_room); (case qzu => ktr_units); (focus (((first | (intro cv ch ctk cS F9 N9 cl cL cP; have cP1 := PI.out cP; clear cP cS; obtain ⟨ct9, cV⟩ := cP1; subst cV) | (intro cv ch ctk cS F9 N9 cl cL cP; have cP1 := PB.out cP; clear cP cS; subst cP1))); all_goals ((try k_sweep); (try dsimp only); (try k_fold))))))) | fail) | walk1 | (dsimp only; walk1) | (leave1; try dsimp only) | (dsimp only) | fail "no step")
  ((refine hret _ _ _ (Fr.keep (by k_asm)) ?_))
  dsimp only at cP2
  rw [q1, show min (cds.length : Int) (0 + cds.length) = cds.length by omega] at cP2
  exact cP2
end
theorem rangeKs_zero (a : Int) : rangeKs a 0 = [] := rfl
theorem rangeKs_cons (a : Int) (n : Nat) : rangeKs a (n + 1) = a :: rangeKs (a + 1) n := by
  unfold rangeKs
  rw [List.range_succ_eq_map, List.map_cons, List.map_map]
  congr 1
  · omega
  · refine List.map_congr_left fun i _ => ?_
    show a + ((i + 1 : Nat) : Int) = a + 1 + (i : Int)
    omega
theorem rangeKs_append (a : Int) : ∀ (n k : Nat), rangeKs a (n + k) = rangeKs a n ++ rangeKs (a + n) k := by
  intro n
  induction n generalizing a with
  | zero => intro k; rw [Nat.zero_add, rangeKs_zero]; simp
  | succ n ih =>
    intro k
    rw [show n + 1 + k = (n + k) + 1 by omega, rangeKs_cons, rangeKs_cons, ih, List.cons_append]
    rw [show a + 1 + (n : Int) = a + ((n + 1 : Nat) : Int) by omega]
theorem findUp_filter (f : Int → Bool) : ∀ (n : Nat) (a : Int), findUp f a n = ((rangeKs a n).filter f).head?
  | 0, _ => rfl
  | n + 1, a => by
    rw [rangeKs_cons, List.filter_cons]; unfold findUp
    by_cases h : f a = true
    · rw [if_pos h, if_pos h]; rfl
    · rw [if_neg h, if_neg h]; exact findUp_filter f n (a + 1)
theorem rangeKs_neg (a : Int) : ∀ n : Nat, rangeKs (a - n + 1) n = ((rangeKs (-a) n).map fun x => -x).reverse := by
  intro n
  induction n generalizing a with
  | zero => rfl
  | succ n ih =>
    rw [rangeKs_cons (-a), List.map_cons, List.reverse_cons, rangeKs_append _ n 1]
    have h := ih (a - 1)
    rw [show a - 1 - (n : Int) + 1 = a - ((n + 1 : Nat) : Int) + 1 by omega, show -(a - 1) = -a + 1 by omega] at h
    rw [h, rangeKs_cons, rangeKs_zero]
    congr 2
    omega
theorem findDown_filter (f : Int → Bool) (a : Int) (n : Nat) : findDown f a n = ((rangeKs (a - n + 1) n).filter f).getLast? := by
  unfold findDown
  rw [findUp_filter, rangeKs_neg, List.filter_reverse, List.getLast?_reverse, List.filter_map, List.head?_map]
  rfl
theorem findUp_shift (f : Int → Bool) (b : Int) : ∀ (n : Nat) (a : Int), findUp f (a + b) n = (findUp (fun x => f (x + b)) a n).map (· + b)
  | 0, _ => rfl
  | n + 1, a => by
    unfold findUp
    by_cases h : f (a + b) = true
    · rw [if_pos h, if_pos h]; rfl
    · rw [if_neg h, if_neg h, show a + b + 1 = a + 1 + b by omega]; exact findUp_shift f b n (a + 1)
theorem findDown_shift (f : Int → Bool) (b : Int) (n : Nat) (a : Int) : findDown f (a + b) n = (findDown (fun x => f (x + b)) a n).map (· + b) := by
  unfold findDown
  rw [show -(a + b) = -a + -b by omega, findUp_shift, Option.map_map, Option.map_map]
  have e : (fun x => (fun x => f (-x)) (x + -b)) = (fun x => f (-x + b)) := by funext x; dsimp only; rw [show -(x + -b) = -x + b by omega]
  rw [e]
  congr 1
  funext x
  show -(x + -b) = -x + b
  omega
theorem findUp_congr {f g : Int → Bool} : ∀ {n : Nat} {a : Int}, (∀ x, a ≤ x → x < a + n → f x = g x) → findUp f a n = findUp g a n
  | 0, _, _ => rfl
  | n + 1, a, h => by
    unfold findUp
    rw [h a (by omega) (by omega), findUp_congr fun x h1 h2 => h x (by omega) (by omega)]
theorem findUp_mem {f : Int → Bool} : ∀ {n : Nat} {a x : Int}, findUp f a n = some x → a ≤ x ∧ x < a + n
  | 0, _, _, h => by cases h
  | n + 1, a, x, h => by
    unfold findUp at h
    by_cases e : f a = true
    · rw [if_pos e] at h; cases h; omega
    · rw [if_neg e] at h; have := findUp_mem h; omega
theorem findDown_mem {f : Int → Bool} {n : Nat} {a x : Int} (h : findDown f a n = some x) : x ≤ a ∧ a - n < x := by
  unfold findDown at h
  cases e : findUp (fun x => f (-x)) (-a) n with
  | none => rw [e] at h; cases h
  | some y => rw [e] at h; have h1 : -y = x := Option.some.inj h; have := findUp_mem e; omega
-- more turns that find nothing
theorem findUp_more {f : Int → Bool} : ∀ {n : Nat} {a : Int} (k : Nat), (∀ x, a + n ≤ x → f x = false) → findUp f a (n + k) = findUp f a n
  | 0, a, k, h => by
    rw [Nat.zero_add]
    exact findUp_none fun j _ => h _ (by omega)
  | n + 1, a, k, h => by
    rw [show n + 1 + k = (n + k) + 1 by omega]
    unfold findUp
    rw [findUp_more (n := n) k fun x hx => h x (by omega)]
theorem filter_none {α : Type} {f : α → Bool} {l : List α} (h : ∀ x ∈ l, f x = false) : l.filter f = [] := List.filter_eq_nil_iff.mpr fun x hx => by rw [h x hx]; simp
-- the places within a window
theorem window (f : Int → Bool) (M : Nat) (lo hi : Int) (h0 : 0 ≤ lo) (h1 : hi ≤ M) : ((rangeKs 0 M).filter f).filter (fun k => decide (lo ≤ k) && decide (k < hi)) = (rangeKs lo (hi - lo).toNat).filter f := by
  by_cases h : lo < hi
  · obtain ⟨k, hk⟩ : ∃ k : Nat, M = lo.toNat + ((hi - lo).toNat + k) := ⟨M - lo.toNat - (hi - lo).toNat, by omega⟩
    rw [hk, rangeKs_append, rangeKs_append, List.filter_append, List.filter_append, List.filter_append, List.filter_append]
    rw [filter_none (l := (rangeKs 0 lo.toNat).filter f), filter_none (l := (rangeKs (0 + lo.toNat + ((hi - lo).toNat : Nat)) k).filter f), List.nil_append, List.append_nil, show (0 : Int) + (lo.toNat : Int) = lo by omega]
    · refine List.filter_eq_self.mpr fun x hx => ?_
      have := mem_rangeKs (List.mem_filter.mp hx).1
      simp only [Bool.and_eq_true, decide_eq_true_eq]
      omega
    · intro x hx
      have := mem_rangeKs (List.mem_filter.mp hx).1
      simp only [Bool.and_eq_false_iff, decide_eq_false_iff_not]
      omega
    · intro x hx
      have := mem_rangeKs (List.mem_filter.mp hx).1
      simp only [Bool.and_eq_false_iff, decide_eq_false_iff_not]
      omega
  · rw [show (hi - lo).toNat = 0 by omega, rangeKs_zero]
    refine filter_none fun x _ => ?_
    simp only [Bool.and_eq_false_iff, decide_eq_false_iff_not]
    omega
theorem window' {f : Int → Bool} {M : Nat} {size n lo hi : Int} (hM : M = (n - size + 1).toNat) (h0 : 0 ≤ lo) (h1 : hi ≤ n) : within size lo hi ((rangeKs 0 M).filter f) = (rangeKs lo (hi - size + 1 - lo).toNat).filter f := by
  by_cases h2 : hi - size + 1 ≤ M
  · rw [← window f M lo (hi - size + 1) h0 h2]
    unfold within
    refine List.filter_congr fun x _ => ?_
    by_cases a : lo ≤ x
    · by_cases b : x + size ≤ hi
      · simp [a, b, show x < hi - size + 1 by omega]
      · simp [a, b, show ¬ x < hi - size + 1 by omega]
    · simp [a]
  · have e : M = 0 := by omega
    rw [e, show (hi - size + 1 - lo).toNat = 0 by omega, rangeKs_zero, rangeKs_zero]; rfl
noncomputable def sh (b : Int) (p : Int × Int) : Int × Int := (p.1 + b, p.2 + b)
theorem codeAt_shift (cs : List Int) (b p : Int) : codeAt cs b (p + b) = codeAt cs 0 p := by
  unfold codeAt
  have h : (b ≤ p + b ∧ p + b < b + cs.length) ↔ (0 ≤ p ∧ p < 0 + cs.length) := by omega
  by_cases c : 0 ≤ p ∧ p < 0 + cs.length
  · rw [if_pos c, if_pos (h.mpr c), show p + b - b = p - 0 by omega]
  · rw [if_neg c, if_neg (fun z => c (h.mp z))]
theorem isHere_shift (cs : List Int) (b : Int) (folds : Bool) (ps : List Int) (p : Int) : isHere cs b folds ps (p + b) = isHere cs 0 folds ps p := by
  unfold isHere
  congr 1
  funext i
  rw [show p + b + (i : Int) = p + i + b by omega, codeAt_shift]
-- the law's row of places, by the program's own test
noncomputable def SS (cds ps : List Int) (folds : Bool) : List Int := (rangeKs 0 ((cds.length : Int) - ps.length + 1).toNat).filter (isHere cds 0 folds ps)
section
variable {cds ps : List Int} {bs place bound : Int} {folds : Bool}
theorem searchF_law (h0 : 0 ≤ place) : searchF cds bs folds ps (place + bs) (bound + bs) = (lawAhead (SS cds ps folds) ps.length place (min bound cds.length)).map (sh bs) := by
  unfold searchF lawAhead SS
  rw [window' rfl h0 (Int.min_le_right _ _), findUp_shift, ← findUp_filter]
  have e : (fun x => isHere cds bs folds ps (x + bs)) = isHere cds 0 folds ps := by funext x; exact isHere_shift ..
  rw [e, show (min (bound + bs) (bs + cds.length) - (ps.length : Int) + 1 - (place + bs)) = (min bound cds.length - ps.length + 1 - place) by omega]
  cases findUp (isHere cds 0 folds ps) place (min bound cds.length - ps.length + 1 - place).toNat with
  | none => rfl
  | some x => show some (x + bs, x + bs + (ps.length : Int)) = some (x + bs, x + (ps.length : Int) + bs); rw [Int.add_right_comm]
theorem searchB_law (h0 : 0 ≤ bound) (h1 : place ≤ cds.length) : searchB cds bs folds ps (place + bs) (bound + bs) = (lawBack (SS cds ps folds) ps.length place bound).map (sh bs) := by
  unfold searchB lawBack SS
  rw [window' rfl h0 h1, show place + bs - (ps.length : Int) = place - ps.length + bs by omega, findDown_shift]
  have e : (fun x => isHere cds bs folds ps (x + bs)) = isHere cds 0 folds ps := by funext x; exact isHere_shift ..
  rw [e, show (place - (ps.length : Int) + bs - (max (bound + bs) bs - 1)) = place - ps.length + 1 - bound by omega, findDown_filter]
  by_cases c : 0 ≤ place - ps.length + 1 - bound
  · rw [show place - (ps.length : Int) - (place - ps.length + 1 - bound).toNat + 1 = bound by omega]
    cases (List.filter (isHere cds 0 folds ps) (rangeKs bound (place - ps.length + 1 - bound).toNat)).getLast? with
    | none => rfl
    | some x => show some (x + bs, x + bs + (ps.length : Int)) = some (x + bs, x + (ps.length : Int) + bs); rw [Int.add_right_comm]
  · rw [show (place - (ps.length : Int) + 1 - bound).toNat = 0 by omega, rangeKs_zero, rangeKs_zero]; rfl
theorem lawAhead_in {n size : Int} {q : Int × Int} (hsz : 0 ≤ size) (h : lawAhead (SS cds ps folds) size place bound = some q) (h0 : 0 ≤ place) : (0 ≤ q.1 ∧ q.1 ≤ bound) ∧ (0 ≤ q.2 ∧ q.2 ≤ bound) := by
  unfold lawAhead at h
  cases e : (within size place bound (SS cds ps folds)).head? with
  | none => rw [e] at h; cases h
  | some a =>
    rw [e] at h; cases h
    have hm := List.mem_of_head? e
    unfold within at hm
    have := (List.mem_filter.mp hm).2
    split at this
    · split at this
      · dsimp only; omega
      · cases this
    · cases this
theorem lawBack_in {size : Int} {q : Int × Int} (hsz : 0 ≤ size) (h : lawBack (SS cds ps folds) size place bound = some q) (h0 : 0 ≤ bound) : (0 ≤ q.1 ∧ q.1 ≤ place) ∧ (0 ≤ q.2 ∧ q.2 ≤ place) := by
  unfold lawBack at h
  cases e : (within size bound place (SS cds ps folds)).getLast? with
  | none => rw [e] at h; cases h
  | some a =>
    rw [e] at h; cases h
    have hm := List.mem_of_getLast? e
    unfold within at hm
    have := (List.mem_filter.mp hm).2
    split at this
    · split at this
      · dsimp only; omega
      · cases this
    · cases this
end
-- a search taken again, shifted
theorem often_shift {f g : Int → Option (Int × Int)} {nf ng : Int × Int → Int} {b : Int} (Ok : Int → Prop) (hn : ∀ q, ng (sh b q) = nf q + b) (hfg : ∀ p, Ok p → g (p + b) = (f p).map (sh b)) (hok : ∀ p q, Ok p → f p = some q → Ok (nf q)) :
    ∀ (k : Nat) (p : Int) (r : Option (Int × Int)), Ok p → often g ng k (p + b) (r.map (sh b)) = (often f nf k p r).map (sh b)
  | 0, _, _, _ => rfl
  | k + 1, p, r, h => by
    unfold often
    rw [hfg p h]
    cases e : f p with
    | none => rfl
    | some q =>
      dsimp only [Option.map_some]
      rw [hn q]
      exact often_shift Ok hn hfg hok k (nf q) (some q) (hok p q h e)
theorem often_law_F {cds ps : List Int} {bs place count : Int} {folds : Bool} {k : Nat} (hc : 0 < count) (h0 : 0 ≤ place) :
    often (fun p => searchF cds bs folds ps p (cds.length + bs)) (fun q => if 0 < count then q.2 else q.1) k (place + bs) none = (often (lawStep (SS cds ps folds) ps.length cds.length count) (fun q => if 0 < count then q.2 else q.1) k place none).map (sh bs) := by
  refine often_shift (r := none) (fun p => 0 ≤ p) (fun q => ?_) (fun p hp => ?_) (fun p q hp e => ?_) k place h0
  · rw [if_pos hc, if_pos hc]; rfl
  · unfold lawStep; rw [if_pos hc, searchF_law hp, Int.min_self]
  · unfold lawStep at e; rw [if_pos hc] at e; rw [if_pos hc]; exact (lawAhead_in (n := 0) (Int.natCast_nonneg _) e hp).2.1
theorem often_law_B {cds ps : List Int} {bs place count : Int} {folds : Bool} {k : Nat} (hc : ¬ 0 < count) (h0 : place ≤ cds.length) :
    often (fun p => searchB cds bs folds ps p bs) (fun q => if 0 < count then q.2 else q.1) k (place + bs) none = (often (lawStep (SS cds ps folds) ps.length 0 count) (fun q => if 0 < count then q.2 else q.1) k place none).map (sh bs) := by
  refine often_shift (r := none) (fun p => p ≤ cds.length) (fun q => ?_) (fun p hp => ?_) (fun p q hp e => ?_) k place h0
  · rw [if_neg hc, if_neg hc]; rfl
  · unfold lawStep; rw [if_neg hc]
    have := searchB_law (cds := cds) (ps := ps) (bs := bs) (folds := folds) (bound := 0) (Int.le_refl 0) hp
    rw [Int.zero_add] at this; exact this
  · unfold lawStep at e; rw [if_neg hc] at e; rw [if_neg hc]; have := (lawBack_in (Int.natCast_nonneg _) e (Int.le_refl 0)).1.2; omega
section
variable {prog : Program} {w : World} {A₀ A : Around} {base h₀ : Heap} {outer : List Env} {L : Addr} {m : Str → Option Value} {s : Shared} {env : Env} {K : Frag} {p : Program} {loose : List Str} {mean : ExcName → Option Value} {mg mb : Str → Option Value}
  {name qual : Str} {params : Arguments} {body : Expr} {scope : Scope} {cl : List (Str × Addr)} {pm ctv : Value} {c' f : Addr} {vals : List Value} {Q E : Value → Shared → Prop}
-- a lambda is entered; what stands is the new frame's ground
theorem enter_lam (B : Below A₀ base outer h₀) (F : Fr h₀ L s.heap m) (X₀ : K.In h₀) (T : Top p loose mean mg mb h₀) (hA : A.frames = some (env :: outer)) (hf : env.frame = some L) (hke : env.scope.kind = .function)
    (ho : s.heap.get? f = some (kla_obj name qual params body scope cl pm c' ctv)) (hcd : s.heap.CodeRec (.ref c') qual) (hroom : A.depth < recursionLimit)
    (hbind : bindArgs (kla_fn name qual params body scope cl pm (.ref c') ctv) ⟨vals, []⟩ = pure ((params.args.map (·.arg)).zip vals)) (hloc : ∀ y ∈ (params.args.map (·.arg)).zip vals, scope.names.lookup y.1 = some .local)
    (h : ∀ (L₁ : Addr) (h₁ : Heap) (tk : Nat), Fr s.heap L₁ h₁ (fun y => ((params.args.map (·.arg)).zip vals).reverse.lookup y) → News s.heap L₁ h₁ [] → Below A base (env :: outer) s.heap → K.In s.heap → Top p loose mean mg mb s.heap →
      wpAny (model prog w) (A.deeper (envX qual scope L₁ f (.ref c') cl)) (eval body (envX qual scope L₁ f (.ref c') cl)) Q
        (fun e s' => wpAny (model prog w) (A.deeper (envX qual scope L₁ f (.ref c') cl)) (leaving (envX qual scope L₁ f (.ref c') cl) e) (fun _ s'' => E e s'') (fun e' s'' => E e' s'') s') { s with heap := h₁, toks := tk })
    (hco : scope.isCoroutine = false) (hgen : scope.isGenerator = false) (hk : scope.kind = .function) (hcell : ∀ x ∈ scope.names, x.2 ≠ .cell) : wpAny (model prog w) A (call (.ref f) vals) Q E s := by
  have P := pushX B F hf hke
  refine wpAny_call (kla_callFunE hroom ho rfl hco hgen rfl hcd ?_)
  rw [hbind]
  refine wpAny_pure (wpAny_newFunctionEnv hcell hloc (fun h₁ hns hsb => ⟨((T.nolimit).keeps F.keep).fresh _ hsb, ?_⟩) hk)
  show codeAny _ _ (.expr body (envX qual scope s.heap.objs.size f (.ref c') cl)) _ _
  have hk₁ : ∀ b o, s.heap.get? b = some o → h₁.get? b = some o := fun b o e => hsb.extBut b o (Nat.ne_of_lt (Heap.lt_size e)) (Heap.get?_push_of_some _ e)
  exact kla_codeExpr (h s.heap.objs.size h₁ _ ⟨hns, hk₁, Nat.le_refl _⟩ News.nil ⟨hA, P.stays, P.frames⟩ (X₀.keeps F.keep) (T.keeps F.keep))
end
section
variable {K : Params → Frag} {w : World} {f c' : Addr} {Pre : Heap → Prop} {dd uu : Nat} {vals : List Value} {Post : Heap → Heap → Value → Prop} {name qual : Str} {params : Arguments} {body : Expr} {scope : Scope} {cl : List (Str × Addr)} {pm ctv : Value} {zl : List (Str × Value)}
theorem CtP.mkL (ho : ∀ h, Pre h → h.get? f = some (kla_obj name qual params body scope cl pm c' ctv)) (hcd : ∀ h, Pre h → h.CodeRec (.ref c') qual)
    (hbind : bindArgs (kla_fn name qual params body scope cl pm (.ref c') ctv) ⟨vals, []⟩ = pure ((params.args.map (·.arg)).zip vals)) (hloc : ∀ y ∈ (params.args.map (·.arg)).zip vals, scope.names.lookup y.1 = some .local) (hz : ((params.args.map (·.arg)).zip vals).reverse = zl)
    (hco : scope.isCoroutine = false) (hgen : scope.isGenerator = false) (hk : scope.kind = .function) (hcell : ∀ x ∈ scope.names, x.2 ≠ .cell)
    (h : ∀ (p : Program) (loose : List Str) (mean : ExcName → Option Value) (mg mb : Str → Option Value) (dp un : Nat) (gd : Option (List Code)) (env : Env) (outer : List Env) (base sh : Heap) (sg : Array GenState) (sd : PySem.Drawn) (so : OsState) (Q E : Value → Shared → Prop),
      dp + dd < recursionLimit → un + uu < cLine → Pre sh → (∀ (v : Value) (h' : Heap) (tk' : Nat), sh.StaysIn h' → Post sh h' v → Q v ⟨h', sg, sd, tk', so⟩) →
      ∀ (L₁ : Addr) (h₁ : Heap) (tk : Nat), let mm : Str → Option Value := fun y => zl.lookup y; Fr sh L₁ h₁ mm → News sh L₁ h₁ [] → Below (kTop dp un gd env outer) base (env :: outer) sh → (K w.params).In sh → Top p loose mean mg mb sh →
      let A₁ := (kTop dp un gd env outer).deeper (envX qual scope L₁ f (.ref c') cl)
      let ek : Value → Shared → Prop := fun e s' => wpAny (model PySem.Challenge.rw_np0108_01.row.prog w) A₁ (leaving (envX qual scope L₁ f (.ref c') cl) e) (fun _ s'' => E e s'') (fun e' s'' => E e' s'') s'
      let gk : Prop := wpAny (model PySem.Challenge.rw_np0108_01.row.prog w) A₁ (eval body (envX qual scope L₁ f (.ref c') cl)) Q ek ⟨h₁, sg, sd, tk, so⟩
      gk) : CtP K w f Pre dd uu vals Post := by
  subst hz
  intro p loose mean mg mb dp un gd env outer A₀ base h₀ L m sh sg sd st so Q E B F X T hf hk' hp hdp hu hret
  exact enter_lam (s := ⟨sh, sg, sd, st, so⟩) B F X T rfl hf hk' (ho sh hp) (hcd sh hp) (show dp < recursionLimit by omega) hbind hloc (fun L₁ h₁ tk F₁ N₁ B₁ X₁ T₁ => h p loose mean mg mb dp un gd env outer base sh sg sd so Q E hdp hu hp hret L₁ h₁ tk F₁ N₁ B₁ X₁ T₁) hco hgen hk hcell
end
-- standing objects, taken into the ledger
theorem weakA {h₀ h : Heap} {L : Addr} {m : Str → Option Value} {cells news : List (Addr × Obj)} (F : Fr h₀ L h m) (N : News h₀ L h news) (hc : ∀ q ∈ cells, h₀.get? q.1 = some q.2) :
    Fr (hideAll h₀ (cells.map (·.1))) L h m ∧ News (hideAll h₀ (cells.map (·.1))) L h (cells ++ news) := by
  refine ⟨weakF _ F, fun q hq => ?_⟩
  rcases List.mem_append.mp hq with hq | hq
  · have e := hc q hq
    exact ⟨F.keep _ _ e, Nat.ne_of_lt (Nat.lt_of_lt_of_le (Heap.lt_size e) F.above), hideAll_none _ (List.mem_map_of_mem hq)⟩
  · exact weakN _ N q hq
theorem stays_weakA {h₀ h' : Heap} {L : Addr} {m : Str → Option Value} {cells news : List (Addr × Obj)} (F : Fr (hideAll h₀ (cells.map (·.1))) L h' m) (N : News (hideAll h₀ (cells.map (·.1))) L h' news) (hc : ∀ q ∈ cells, h₀.get? q.1 = some q.2) (sub : ∀ q ∈ cells, q ∈ news) : h₀.StaysIn h' := by
  refine stays_weak F fun a ha o e => ?_
  obtain ⟨q, hq, rfl⟩ := List.mem_map.mp ha
  have := hc q hq
  rw [this] at e; cases e
  exact (N _ (sub q hq)).1
theorem back_weakA {h₀ h' : Heap} {as : List Addr} {L : Addr} {news : List (Addr × Obj)} {x : Addr} {o : Obj} (N : News (hideAll h₀ as) L h' news) (hm : (x, o) ∈ news) (hx : x ∉ as) : h₀.get? x = none := weak_fresh N hm hx
theorem eqv_fo (folds : Bool) (a b : Int) : eqv folds a b = decide (fo folds a = fo folds b) := by
  unfold eqv fo
  cases folds with
  | false => simp
  | true =>
    simp only [Bool.true_and, if_true]
    by_cases h : a = b
    · subst h; simp
    · simp [h]
theorem isHere_iff {cds ps : List Int} {bs p : Int} {folds : Bool} : isHere cds bs folds ps p = true ↔ ∀ i, i < ps.length → fo folds (codeAt cds bs (p + i)) = fo folds (ps.getD i 0) := by
  unfold isHere
  rw [List.all_eq_true]
  constructor
  · intro h i hi
    have := h i (List.mem_range.mpr hi)
    rw [eqv_fo] at this
    exact of_decide_eq_true this
  · intro h i hi
    rw [eqv_fo]
    exact decide_eq_true (h i (List.mem_range.mp hi))
theorem runR_iff {cds : List Int} {bs lim : Int} {folds : Bool} : ∀ {cs : List Int} {p : Int}, (runR cds bs folds lim cs p).isSome = true ↔ ∀ i, i < cs.length → p + i < lim ∧ cs.getD i 0 = fo folds (codeAt cds bs (p + i))
  | [], p => by unfold runR; simp
  | c :: cs, p => by
    by_cases h : p < lim ∧ c = fo folds (codeAt cds bs p)
    · rw [runR_some (q := p + 1) (by unfold askR; rw [if_pos h]), runR_iff]
      constructor
      · intro k i hi
        cases i with
        | zero => simpa using h
        | succ i =>
          have := k i (by simpa using hi)
          rw [show p + ((i + 1 : Nat) : Int) = p + 1 + i by omega]
          simpa using this
      · intro k i hi
        have := k (i + 1) (by simpa using hi)
        rw [show p + ((i + 1 : Nat) : Int) = p + 1 + i by omega] at this
        simpa using this
    · rw [runR_none (by unfold askR; rw [if_neg h])]
      constructor
      · intro k; cases k
      · intro k
        have := k 0 (by simp)
        exact absurd (by simpa using this) h
theorem getD_map_fo (folds : Bool) (ps : List Int) {i : Nat} (hi : i < ps.length) : (ps.map (fo folds)).getD i 0 = fo folds (ps.getD i 0) := by
  rw [List.getD_eq_getElem?_getD, List.getD_eq_getElem?_getD, List.getElem?_map, List.getElem?_eq_getElem hi]; rfl
theorem reSearch_law {cds ps : List Int} {place : Int} {folds : Bool} (h0 : 0 ≤ place) : reSearch cds 0 folds (ps.map (fo folds)) place cds.length = lawAhead (SS cds ps folds) ps.length place cds.length := by
  unfold reSearch lawAhead SS
  rw [window' rfl h0 (Int.le_refl _), ← findUp_filter, List.length_map]
  congr 1
  have key : ∀ x : Int, x + ps.length ≤ cds.length → (runR cds 0 folds cds.length (ps.map (fo folds)) x).isSome = isHere cds 0 folds ps x := by
    intro x hx
    rw [Bool.eq_iff_iff, runR_iff, isHere_iff, List.length_map]
    constructor
    · intro k i hi
      have := (k i hi).2
      rw [getD_map_fo folds ps hi] at this
      exact this.symm
    · intro k i hi
      rw [getD_map_fo folds ps hi]
      exact ⟨by omega, (k i hi).symm⟩
  by_cases hm : ps.length = 0
  · rw [hm, show (((0 : Nat) : Int)) = 0 from rfl, show (cds.length : Int) - 0 + 1 - place = cds.length + 1 - place by omega]
    exact findUp_congr fun x h1 h2 => key x (by omega)
  · obtain ⟨k, hk⟩ : ∃ k, ((cds.length : Int) + 1 - place).toNat = ((cds.length : Int) - ps.length + 1 - place).toNat + k := ⟨_, (Nat.add_sub_cancel' (by omega)).symm⟩
    rw [hk, findUp_more k fun x hx => ?_]
    · exact findUp_congr fun x h1 h2 => key x (by omega)
    · cases e : (runR cds 0 folds cds.length (ps.map (fo folds)) x).isSome with
      | false => rfl
      | true =>
        have := (runR_iff.mp e (ps.length - 1) (by rw [List.length_map]; omega)).1
        omega
theorem standsL_eq (T P : Str) : standsL T P = (rangeKs 0 ((T.length : Int) - P.length + 1).toNat).filter (fun k => decide (Txt.slice T (some k) (some (k + (P.length : Int))) = P)) := by
  unfold standsL
  rw [Int.sub_zero]
  generalize rangeKs 0 ((T.length : Int) - P.length + 1).toNat = ks
  have key : ∀ (ks l : List Int), List.foldl (fun l' k' => if (Txt.slice T (some k') (some (k' + (P.length : Int)))).length ≤ T.length ∧ Txt.slice T (some k') (some (k' + (P.length : Int))) = P then l' ++ [k']
    else if (Txt.slice T (some k') (some (k' + (P.length : Int)))).length ≤ T.length ∧ ¬Txt.slice T (some k') (some (k' + (P.length : Int))) = P then l' else l') l ks = l ++ ks.filter (fun k => decide (Txt.slice T (some k) (some (k + (P.length : Int))) = P)) := by
    intro ks
    induction ks with
    | nil => intro l; simp
    | cons k ks ih =>
      intro l
      rw [List.foldl_cons, ih]
      by_cases h : Txt.slice T (some k) (some (k + (P.length : Int))) = P
      · rw [if_pos ⟨Txt.slice_le _ _ _, h⟩, List.filter_cons, if_pos (decide_eq_true h)]; simp
      · rw [if_neg (fun z => h z.2), ite_self, List.filter_cons, if_neg (by simpa using h)]
  exact key ks []
theorem slice_here {cs qs : List Nat} {k : Int} (h0 : 0 ≤ k) (h1 : k + qs.length ≤ cs.length) :
    Txt.slice ⟨cs.toArray⟩ (some k) (some (k + (qs.length : Int))) = ⟨qs.toArray⟩ ↔ ∀ i, i < qs.length → cs.getD (k.toNat + i) 0 = qs.getD i 0 := by
  have e := slice_closesL (x := ⟨cs.toArray⟩) (i := k) (j := k + (qs.length : Int)) h0 (by omega) (by show _ ≤ ((cs.toArray.size : Nat) : Int); rw [List.size_toArray]; exact h1)
  rw [eq_of_beq e, show (k + (qs.length : Int) - k).toNat = qs.length by omega]
  show ((⟨((cs.drop k.toNat).take qs.length).toArray⟩ : Str) = ⟨qs.toArray⟩) ↔ _
  have e1 : ((⟨((cs.drop k.toNat).take qs.length).toArray⟩ : Str) = ⟨qs.toArray⟩) ↔ (cs.drop k.toNat).take qs.length = qs := ⟨fun h => by have := congrArg (fun s : Str => s.cps.toList) h; simpa using this, fun h => by rw [h]⟩
  rw [e1]
  constructor
  · intro h i hi
    have h2 : ((cs.drop k.toNat).take qs.length)[i]? = qs[i]? := by rw [h]
    rw [List.getElem?_take_of_lt hi, List.getElem?_drop] at h2
    rw [List.getD_eq_getElem?_getD, List.getD_eq_getElem?_getD, h2]
  · intro h
    refine List.ext_getElem? fun i => ?_
    by_cases hi : i < qs.length
    · rw [List.getElem?_take_of_lt hi, List.getElem?_drop]
      have := h i hi
      rw [List.getD_eq_getElem?_getD, List.getD_eq_getElem?_getD, List.getElem?_eq_getElem hi, List.getElem?_eq_getElem (show k.toNat + i < cs.length by omega)] at this
      rw [List.getElem?_eq_getElem hi, List.getElem?_eq_getElem (show k.toNat + i < cs.length by omega)]
      simpa using this
    · rw [List.getElem?_eq_none (by simp; omega), List.getElem?_eq_none (by omega)]
-- the codes of letters
noncomputable def ofN (cs : List Nat) : List Int := cs.map fun (c : Nat) => (c : Int)
theorem ofN_length (cs : List Nat) : (ofN cs).length = cs.length := by unfold ofN; rw [List.length_map]
theorem ofN_getD (cs : List Nat) (i : Nat) : (ofN cs).getD i 0 = ((cs.getD i 0 : Nat) : Int) := by
  rw [List.getD_eq_getElem?_getD, List.getD_eq_getElem?_getD, ofN, List.getElem?_map]
  cases cs[i]? <;> rfl
theorem codeAt_in {cs : List Nat} {k : Int} {i : Nat} (h0 : 0 ≤ k) (h1 : k + i < cs.length) : codeAt (ofN cs) 0 (k + i) = ((cs.getD (k.toNat + i) 0 : Nat) : Int) := by
  unfold codeAt
  rw [if_pos ⟨by omega, by rw [ofN_length]; omega⟩, show (k + (i : Int) - 0).toNat = k.toNat + i by omega, ofN_getD]
theorem filter_congr' {α : Type} {f g : α → Bool} {l : List α} (h : ∀ x ∈ l, f x = g x) : l.filter f = l.filter g := List.filter_congr h
theorem dc_lo {c : Nat} (h : c ∈ [97, 98, 65, 66]) : dc (c : Int) = ((lo1 c : Nat) : Int) := by
  simp only [List.mem_cons, List.not_mem_nil, or_false] at h
  rcases h with rfl | rfl | rfl | rfl <;> decide
theorem lower_letters {cs : List Nat} (h : ∀ c ∈ cs, c ∈ [97, 98, 65, 66]) : Txt.lower ⟨cs.toArray⟩ = ⟨(cs.map lo1).toArray⟩ := by
  rw [lower_ascii (x := ⟨cs.toArray⟩) fun c hc => ?_]
  · simp
  · have := h c (by simpa using hc)
    simp only [List.mem_cons, List.not_mem_nil, or_false] at this
    omega
theorem getD_mem {cs : List Nat} {i : Nat} (h : i < cs.length) : cs.getD i 0 ∈ cs := by
  rw [List.getD_eq_getElem?_getD, List.getElem?_eq_getElem h]; exact List.getElem_mem h
theorem getD_map_lo (cs : List Nat) {i : Nat} (h : i < cs.length) : (cs.map lo1).getD i 0 = lo1 (cs.getD i 0) := by
  rw [List.getD_eq_getElem?_getD, List.getD_eq_getElem?_getD, List.getElem?_map, List.getElem?_eq_getElem h]; rfl
-- the law's places are the program's
theorem stands_law {cs qs : List Nat} {folds : Bool} (hc : ∀ c ∈ cs, c ∈ [97, 98, 65, 66]) (hq : ∀ c ∈ qs, c ∈ [97, 98, 65, 66]) : stands ⟨cs.toArray⟩ ⟨qs.toArray⟩ folds = SS (ofN cs) (ofN qs) folds := by
  unfold stands SS
  have hl : ∀ l : List Nat, ((⟨l.toArray⟩ : Str).length : Int) = (l.length : Int) := fun l => by show ((l.toArray.size : Nat) : Int) = _; rw [List.size_toArray]
  cases folds with
  | false =>
    rw [if_neg (by decide), standsL_eq, hl, hl, ofN_length, ofN_length]
    refine filter_congr' fun x hx => ?_
    have hx := mem_rangeKs hx
    rw [Bool.eq_iff_iff, decide_eq_true_eq, slice_here (by omega) (by omega), isHere_iff, ofN_length]
    refine forall_congr' fun i => forall_congr' fun hi => ?_
    rw [codeAt_in (by omega) (by omega), ofN_getD]
    simp only [fo, Bool.false_eq_true, if_false, Int.ofNat_inj]
  | true =>
    rw [if_pos rfl, lower_letters hc, lower_letters hq, standsL_eq, hl, hl, ofN_length, ofN_length, List.length_map, List.length_map]
    refine filter_congr' fun x hx => ?_
    have hx := mem_rangeKs hx
    have e := slice_here (cs := cs.map lo1) (qs := qs.map lo1) (k := x) (by omega) (by rw [List.length_map, List.length_map]; omega)
    rw [List.length_map] at e
    rw [Bool.eq_iff_iff, decide_eq_true_eq, e, isHere_iff, ofN_length]
    refine forall_congr' fun i => forall_congr' fun hi => ?_
    rw [codeAt_in (by omega) (by omega), ofN_getD, getD_map_lo _ hi, getD_map_lo _ (by omega)]
    show _ ↔ (dc _ = dc _)
    rw [dc_lo (hc _ (getD_mem (by omega))), dc_lo (hq _ (getD_mem hi)), Int.ofNat_inj]
section
variable {prog : Program} {w : World} {A : Around} {E : Value → Shared → Prop} {s : Shared} {h₀ : Heap} {L : Addr} {m : Str → Option Value} {env : Env}
open LCg in
-- a comprehension over a text
noncomputable def TxtSrc (prog : Program) (w : World) (A : Around) (h₀ : Heap) (L : Addr) (m : Str → Option Value) (env : Env) (elt : Expr) (x : Str) (scope : Scope) (cl : List (Str × Addr)) (Q : Value → Shared → Prop) (xv : Value) (s₁ : Shared) : Prop :=
  ∃ (y : Str) (t : Tok) (news : List (Addr × Obj)), xv = .str y t ∧ A.handled = none ∧ Fr h₀ L s₁.heap m ∧ News h₀ L s₁.heap news ∧ y.cps.size ≤ sizeLine ∧
    ∀ g, CompRest prog w A h₀ L m env elt x scope cl { s₁ with heap := g } (fun _ => True) (SignAt y) (FinE h₀ L m { s₁ with heap := g } Q) y.cps.size 0 [] news
theorem striter_st {nm : String} {I : Addr} {y : Str} {t : Tok} : ∀ (i : Nat) (h h' : Heap) (o : Obj) (nw : List (Addr × Obj)), h.IsStrIter I nm y t i → h.get? I = some o → h'.get? I = some o → (∀ b o, h₀.get? b = some o → h'.get? b = some o) → News h₀ L h' nw → True → h'.IsStrIter I nm y t i :=
  fun i h h' o nw st e e' _ _ _ => by obtain ⟨o', q, r⟩ := st; rw [e] at q; cases q; exact ⟨o, e', r⟩
open LCg in
theorem ListComp_Txt {elt iter : Expr} {x : Str} {px : Pos} {scope : Scope} {cl : List (Str × Addr)} {pos : Pos} {Q : Value → Shared → Prop} (F₀ : Fr h₀ L s.heap m := by k_asm)
    (hclos : closureFor scope env = pure cl := by with_unfolding_all rfl) (hcell : ∀ y ∈ scope.names, y.2 ≠ .cell := by decide) (hkind : scope.kind = .function := by rfl)
    (hnames : ∀ y ∈ scope.names, y.2 = .local → scope.names.lookup y.1 = some .local := by decide) (hx : scope.names.lookup x = some .local := by rfl)
    (h : wpAny (model prog w) A (eval iter env) (TxtSrc prog w A h₀ L m env elt x scope cl Q) E s)
    (hs : ∀ x, foldedSetIterable iter env x = pure x := by intro _; rfl) :
    wpAny (model prog w) A (eval (.ListComp elt [⟨.Name x px, iter, [], 0⟩] scope pos) env) Q E s := by
  rw [eval_ListComp]
  refine wpAny_comprehension_free (use := none) rfl hs hclos hkind hnames (wpAny_mono h (fun xv s₁ h₁ => ?_) fun _ _ e => e)
  obtain ⟨y, t, news, rfl, hh, F, N, hsz, R⟩ := h₁
  have fin : ∀ (o : Obj), ∀ D C h tk m' ys news', Fr h₀ L h m → News h₀ L h ((D, lst ys) :: news') → Off1 D news' → h.Ns C m' → h₀.get? C = none → h₀.get? D = none → C ≠ L → D ≠ L → C ≠ D → (∀ p ∈ news', p.1 ≠ C) →
      FinE h₀ L m { s₁ with heap := s₁.heap.push o } Q ys news' → _ := fun o D C h tk m' ys news' F' N' o1 hn hC₀ hD₀ hCL hDL hCD offC fin =>
    (⟨m', hn, fun h'' hs'' => fin D h'' tk (F'.change hs'' hCL hC₀) (fun p hp => ⟨hs''.extBut _ _ (by
      rcases List.mem_cons.mp hp with rfl | hp
      · exact Ne.symm hCD
      · exact offC p hp) (N' p hp).1, (N' p hp).2⟩) o1⟩ : ∃ m', h.Ns C m' ∧ ∀ h'', Heap.SameBut C h h'' → Q (.ref D) { s₁ with heap := h'', toks := tk })
  cases ha : y.cps.all (· < 128) with
  | false =>
    refine wpAny_pyIter_wide ha ?_
    refine block_U (Walks.strWide hh s₁.heap.objs.size y t) hsz (fun i h st => by obtain ⟨o, e, _⟩ := st; exact ⟨o, e⟩) striter_st hcell hkind hx ⟨_, Heap.get?_push_size _ rfl, rfl, rfl⟩ (fun b hb => ?_)
      (F.keeps fun _ _ e => Heap.get?_push_of_some _ e) (N.grown fun _ _ e => Heap.get?_push_of_some _ e) (Nat.ne_of_lt F.ns.lt) (next_is_new F) (fun p hp => Nat.ne_of_lt (Heap.lt_size (N p hp).1)) trivial (R _) ?_
    · rw [List.mem_singleton.mp hb]
      show s₁.heap.objs.size < (s₁.heap.push _).objs.size
      rw [Heap.size_push]; exact Nat.lt_succ_self _
    · exact fin _
  | true =>
    refine wpAny_pyIter_ascii ha ?_
    refine block_U (Walks.strAscii hh s₁.heap.objs.size y t) hsz (fun i h st => by obtain ⟨o, e, _⟩ := st; exact ⟨o, e⟩) striter_st hcell hkind hx ⟨_, Heap.get?_push_size _ rfl, rfl, rfl⟩ (fun b hb => ?_)
      (F.keeps fun _ _ e => Heap.get?_push_of_some _ e) (N.grown fun _ _ e => Heap.get?_push_of_some _ e) (Nat.ne_of_lt F.ns.lt) (next_is_new F) (fun p hp => Nat.ne_of_lt (Heap.lt_size (N p hp).1)) trivial (R _) ?_
    · rw [List.mem_singleton.mp hb]
      show s₁.heap.objs.size < (s₁.heap.push _).objs.size
      rw [Heap.size_push]; exact Nat.lt_succ_self _
    · exact fin _
open LCg in
-- a turn's end that keeps the ledger
theorem keep_end {s₁ : Shared} {I C D : Addr} {oI oC oD : Obj} {S : List (Addr × Obj) → Prop} {rest : Value → List (Addr × Obj) → Prop} {y : Value} {h' : Heap} {tk : Nat} {news : List (Addr × Obj)}
    (F : Fr h₀ L h' m) (N : News h₀ L h' ((I, oI) :: (C, oC) :: (D, oD) :: news)) (off : Off3 I C D news) (hS : S news) (r : rest y news) :
    CompEnd h₀ L m s₁ I oI C oC D oD S rest y { s₁ with heap := h', toks := tk } :=
  CompEnd.intro F N news (fun p hp => by
    simp only [List.mem_cons] at hp ⊢
    rcases hp with h | h | h | h <;> simp [h]) off hS r
end
-- what stands between the turns of a comprehension of codes
noncomputable def OrdR (cs : List Nat) (news : List (Addr × Obj)) (i : Nat) (ys : List Value) (nx : List (Addr × Obj)) : Prop := nx = news ∧ IntsAre ys (ofN (cs.take i))
theorem ints_snoc {ys : List Value} {ns : List Int} {x : Int} {t : Tok} (h : IntsAre ys ns) : IntsAre (ys ++ [.int x t]) (ns ++ [x]) := by
  induction h with
  | nil => exact .cons _ _ .nil
  | cons y t _ ih => exact .cons _ _ ih
theorem ofN_take {cs : List Nat} {i c : Nat} (h : cs[i]? = some c) : ofN (cs.take (i + 1)) = ofN (cs.take i) ++ [(c : Int)] := by
  rw [List.take_add_one, h]; unfold ofN; rw [List.map_append]; rfl
theorem OrdR.step {cs : List Nat} {news : List (Addr × Obj)} {i c : Nat} {ys : List Value} {t : Tok} {x : Int} (h : IntsAre ys (ofN (cs.take i))) (hc : cs[i]? = some c) (e : x = (c : Int)) : OrdR cs news (i + 1) (ys ++ [.int x t]) news := ⟨rfl, by rw [ofN_take hc, e]; exact ints_snoc h⟩
section
variable {prog : Program} {w : World} {A : Around} {s : Shared} {h₀ : Heap} {L : Addr} {m : Str → Option Value} {env : Env}
open LCg in
theorem comp_ords {elt : Expr} {x : Str} {scope : Scope} {cl : List (Str × Addr)} {S : List (Addr × Obj) → Prop} {Fin : List Value → List (Addr × Obj) → Prop} {cs : List Nat} {news : List (Addr × Obj)}
    (turn : ∀ (i c : Nat) ys t I oI C oC D m₂ h tk (E' : Value → Shared → Prop), cs[i]? = some c → c ∈ cs → IntsAre ys (ofN (cs.take i)) → NsObj oC m₂ → m₂ x = some (.str ⟨#[c]⟩ t) → Fr h₀ L h m → News h₀ L h ((I, oI) :: (C, oC) :: (D, lst ys) :: news) → Off3 I C D news → ((@Ne Nat I C) ∧ (@Ne Nat I D) ∧ (@Ne Nat C D)) →
      wpAny (model prog w) A (eval elt (compEnvC scope cl C env)) (CompEnd h₀ L m { s with heap := h, toks := tk } I oI C oC D (lst ys) S (fun y news' => OrdR cs news (i + 1) (ys ++ [y]) news')) E' { s with heap := h, toks := tk })
    (fin : ∀ ys, IntsAre ys (ofN cs) → Fin ys news) : CompRest prog w A h₀ L m env elt x scope cl s S (SignAt ⟨cs.toArray⟩) Fin cs.toArray.size 0 [] news := by
  rw [List.size_toArray]
  refine comp_ind (fun i ys nx => OrdR cs news i ys nx) ⟨rfl, .nil⟩ ?_ ?_
  · rintro i ys nx v I oI C oC D m₂ h tk E' hi ⟨rfl, hI⟩ ⟨c, u, hc, rfl⟩ hC hx F N off ne
    have hc' : cs[i]? = some c := by simpa using hc
    exact turn i c ys u I oI C oC D m₂ h tk E' hc' (List.mem_of_getElem? hc') hI hC hx F N off ne
  · rintro ys nx ⟨rfl, hI⟩
    rw [List.take_length] at hI
    exact fin ys hI
end
theorem txt_size {cs : List Nat} {n : Nat} (h : cs.length ≤ n) (hn : n ≤ 100) : (⟨cs.toArray⟩ : Str).cps.size ≤ sizeLine := by
  show cs.toArray.size ≤ sizeLine
  rw [List.size_toArray, PySem.sizeLine_eq]; omega
theorem list_ofLst {prog : Program} {w : World} {A : Around} {E : Value → Shared → Prop} {s : Shared} {h₀ : Heap} {L b : Addr} {m : Str → Option Value} {news : List (Addr × Obj)} {ys : List Value} {cs : List Nat} {n : Nat} {Q : Value → Shared → Prop} (F : Fr h₀ L s.heap m) (N : News h₀ L s.heap news) (hb : (b, LCg.lst ys) ∈ news)
    (hi : IntsAre ys (ofN cs)) (hl : cs.length ≤ n) (hn : n ≤ 100)
    (h : ∀ D c h', Fr h₀ L h' m → News h₀ L h' ((D, listOf ys.toArray c) :: news) → (∀ q ∈ news, q.1 < D) → Q (.ref D) { s with heap := h' }) : wpAny (model prog w) A (call (.type "list") [.ref b]) Q E s :=
  kup_listOf (its2 := ys.toArray) F N hb rfl h (by
    show ys.length ≤ sizeLine
    rw [hi.length, ofN_length, PySem.sizeLine_eq]; omega)
-- a part of the ledger that bears a fact
noncomputable def SegP (seg : List (Addr × Obj)) (P : Heap → Prop) : Prop := ∀ h, (∀ q ∈ seg, h.get? q.1 = some q.2) → P h
theorem SegP.use {seg news : List (Addr × Obj)} {P : Heap → Prop} {h₀ h : Heap} {L : Addr} (S : SegP seg P) (N : News h₀ L h news) (sub : ∀ q ∈ seg, q ∈ news) : P h := S h fun q hq => (N q (sub q hq)).1
theorem SegP.onG {seg news : List (Addr × Obj)} {P : Heap → Prop} {h₀ h g : Heap} {L d : Addr} (S : SegP seg P) (N : News h₀ L h news) (sub : ∀ q ∈ seg, q ∈ news) (A : AllNe d seg) (G : GSub h g [d]) : P g :=
  S g fun q hq => G _ _ (N q (sub q hq)).1 (by
    intro hm
    exact AllNe.ne A hq (List.mem_singleton.mp hm))
theorem SegP.up {seg seg' : List (Addr × Obj)} {P : Heap → Prop} (S : SegP seg P) (sub : ∀ q ∈ seg, q ∈ seg') : SegP seg' P := fun h k => S h fun q hq => k q (sub q hq)
theorem SegP.mk1 {seg : List (Addr × Obj)} {P : Heap → Prop} (k : ∀ h, (∀ q ∈ seg, h.get? q.1 = some q.2) → P h) : SegP seg P := k
-- new objects
noncomputable def Come (h₀ : Heap) (L : Addr) (h' : Heap) (fs : List (Addr × Obj)) : Prop := ∀ q ∈ fs, h'.get? q.1 = some q.2 ∧ q.1 ≠ L ∧ h₀.get? q.1 = none
-- a value bears such a find
noncomputable def FindIn (seg : List (Addr × Obj)) (o : Option (Int × Int)) (v : Value) : Prop := match o with
  | none => v = .none
  | some p => ∃ (l t : Addr) (ta tb : Tok) (n1 n2 : Nat), v = .ref l ∧ (l, listOf #[.ref t] n1) ∈ seg ∧ (t, tupOf #[.int p.1 ta, .int p.2 tb] n2) ∈ seg ∧ t ≠ l
theorem FindIn.up {seg seg' : List (Addr × Obj)} {o : Option (Int × Int)} {v : Value} (F : FindIn seg o v) (sub : ∀ q ∈ seg, q ∈ seg') : FindIn seg' o v := by
  cases o with
  | none => exact F
  | some p =>
    obtain ⟨l, t, ta, tb, n1, n2, e, a, b, c⟩ := F
    exact ⟨l, t, ta, tb, n1, n2, e, sub _ a, sub _ b, c⟩
theorem FindIn.at {seg news : List (Addr × Obj)} {o : Option (Int × Int)} {v : Value} {h₀ h : Heap} {L : Addr} (F : FindIn seg o v) (N : News h₀ L h news) (sub : ∀ q ∈ seg, q ∈ news) : PFat h o v := by
  cases o with
  | none => exact F
  | some p =>
    obtain ⟨l, t, ta, tb, n1, n2, e, a, b, c⟩ := F
    exact ⟨l, t, ta, tb, n1, n2, e, N.get (sub _ a), N.get (sub _ b), c⟩
-- what a search gave comes as new objects
theorem PF.come {o : Option (Int × Int)} {h₀ h h' : Heap} {L : Addr} {m : Str → Option Value} {v : Value} {news : List (Addr × Obj)} (Fo : Fr h₀ L h m) (No : News h₀ L h news) (P : PF o h h' v) :
    ∃ fs, FindIn fs o v ∧ Come h₀ L h' fs ∧ ∀ p ∈ news, AllNe p.1 fs := by
  cases o with
  | none => exact ⟨[], P, fun q hq => (nomatch hq), fun _ _ => trivial⟩
  | some p =>
    obtain ⟨l, t, ta, tb, n1, n2, rfl, e1, e2, f2, f1, ne⟩ := P
    have fr : ∀ {x}, h.get? x = none → x ≠ L ∧ h₀.get? x = none := fun {x} e => by
      constructor
      · rintro rfl
        obtain ⟨oL, _, _, hL, _⟩ := Fo.ns
        rw [hL] at e; cases e
      · cases q : h₀.get? x with
        | none => rfl
        | some o => rw [Fo.keep _ _ q] at e; cases e
    refine ⟨[(l, listOf #[.ref t] n1), (t, tupOf #[.int p.1 ta, .int p.2 tb] n2)], ⟨l, t, ta, tb, n1, n2, rfl, .head _, .tail _ (.head _), ne⟩, fun q hq => ?_, fun q hq => ⟨?_, ?_, trivial⟩⟩
    · rcases List.mem_cons.mp hq with rfl | hq
      · exact ⟨e1, fr f1⟩
      · obtain rfl := List.mem_singleton.mp hq
        exact ⟨e2, fr f2⟩
    · rintro e
      have := (No q hq).1
      rw [← e] at this
      exact absurd (this.symm.trans f1) (by simp)
    · rintro e
      have := (No q hq).1
      rw [← e] at this
      exact absurd (this.symm.trans f2) (by simp)
section
variable {h₀ h' : Heap} {L : Addr} {a b c d e f : Addr × Obj} {fs tl : List (Addr × Obj)}
theorem News.come (N : News h₀ L h' tl) (K : Come h₀ L h' fs) : News h₀ L h' (fs ++ tl) := fun q hq => by
  rcases List.mem_append.mp hq with hq | hq
  · exact K q hq
  · exact N q hq
theorem News.cons_of {p : Addr × Obj} {l l' : List (Addr × Obj)} (N : News h₀ L h' (p :: l)) (k : News h₀ L h' l → News h₀ L h' l') : News h₀ L h' (p :: l') := fun q hq => by
  rcases List.mem_cons.mp hq with rfl | hq
  · exact N _ (.head _)
  · exact k (fun q hq => N q (.tail _ hq)) q hq
theorem ins3 (K : Come h₀ L h' fs) (N : News h₀ L h' (a :: b :: c :: tl)) : News h₀ L h' (a :: b :: c :: (fs ++ tl)) := News.cons_of N fun N => News.cons_of N fun N => News.cons_of N fun N => News.come N K
theorem ins4 (K : Come h₀ L h' fs) (N : News h₀ L h' (a :: b :: c :: d :: tl)) : News h₀ L h' (a :: b :: c :: d :: (fs ++ tl)) := News.cons_of N fun N => ins3 K N
theorem ins5 (K : Come h₀ L h' fs) (N : News h₀ L h' (a :: b :: c :: d :: e :: tl)) : News h₀ L h' (a :: b :: c :: d :: e :: (fs ++ tl)) := News.cons_of N fun N => ins4 K N
theorem ins6 (K : Come h₀ L h' fs) (N : News h₀ L h' (a :: b :: c :: d :: e :: f :: tl)) : News h₀ L h' (a :: b :: c :: d :: e :: f :: (fs ++ tl)) := News.cons_of N fun N => ins5 K N
end
theorem AllNe.app {d : Nat} : ∀ {l l' : List (Addr × Obj)}, AllNe d l → AllNe d l' → AllNe d (l ++ l')
  | [], _, _, h => h
  | _ :: _, _, h, h' => ⟨h.1, AllNe.app h.2 h'⟩
theorem AllNe.ins2 {d : Nat} {a b : Addr × Obj} {fs tl : List (Addr × Obj)} (h : AllNe d (a :: b :: tl)) (k : AllNe d fs) : AllNe d (a :: b :: (fs ++ tl)) := ⟨h.1, h.2.1, AllNe.app k h.2.2⟩
theorem AllNe.ins3 {d : Nat} {a b c : Addr × Obj} {fs tl : List (Addr × Obj)} (h : AllNe d (a :: b :: c :: tl)) (k : AllNe d fs) : AllNe d (a :: b :: c :: (fs ++ tl)) := ⟨h.1, AllNe.ins2 h.2 k⟩
theorem AllNe.ins4 {d : Nat} {a b c e : Addr × Obj} {fs tl : List (Addr × Obj)} (h : AllNe d (a :: b :: c :: e :: tl)) (k : AllNe d fs) : AllNe d (a :: b :: c :: e :: (fs ++ tl)) := ⟨h.1, AllNe.ins3 h.2 k⟩
theorem allNe_lt {d : Addr} {l : List (Addr × Obj)} (h : ∀ q ∈ l, q.1 < d) : AllNe d l := allNe_of fun q hq => Nat.ne_of_lt (h q hq)
-- finds of a row
noncomputable def FindsIn (seg : List (Addr × Obj)) : List (Option (Int × Int)) → List Value → Prop
  | [], [] => True
  | o :: os, v :: vs => FindIn seg o v ∧ FindsIn seg os vs
  | _, _ => False
theorem FindsIn.up {seg seg' : List (Addr × Obj)} (sub : ∀ q ∈ seg, q ∈ seg') : ∀ {os : List (Option (Int × Int))} {vs : List Value}, FindsIn seg os vs → FindsIn seg' os vs
  | [], [], _ => trivial
  | _ :: _, _ :: _, h => ⟨h.1.up sub, FindsIn.up sub h.2⟩
  | [], _ :: _, h => h.elim
  | _ :: _, [], h => h.elim
theorem FindsIn.get {seg : List (Addr × Obj)} : ∀ {os : List (Option (Int × Int))} {vs : List Value} {i : Nat} {v : Value}, FindsIn seg os vs → vs[i]? = some v → ∃ o, os[i]? = some o ∧ FindIn seg o v
  | [], [], _, _, _, e => by simp at e
  | o :: _, _ :: _, 0, _, h, e => by simp at e; subst e; exact ⟨o, rfl, h.1⟩
  | _ :: _, _ :: _, i + 1, _, h, e => by simpa using FindsIn.get (i := i) h.2 (by simpa using e)
  | [], _ :: _, _, _, h, _ => h.elim
  | _ :: _, [], _, _, h, _ => h.elim
theorem FindsIn.snoc {seg : List (Addr × Obj)} {o : Option (Int × Int)} {v : Value} : ∀ {os : List (Option (Int × Int))} {vs : List Value}, FindsIn seg os vs → FindIn seg o v → FindsIn seg (os ++ [o]) (vs ++ [v])
  | [], [], _, f => ⟨f, trivial⟩
  | _ :: _, _ :: _, h, f => ⟨h.1, FindsIn.snoc h.2 f⟩
  | [], _ :: _, h, _ => h.elim
  | _ :: _, [], h, _ => h.elim
theorem FindsIn.length {seg : List (Addr × Obj)} : ∀ {os : List (Option (Int × Int))} {vs : List Value}, FindsIn seg os vs → vs.length = os.length
  | [], [], _ => rfl
  | _ :: _, _ :: _, h => by rw [List.length_cons, List.length_cons, FindsIn.length h.2]
  | [], _ :: _, h => h.elim
  | _ :: _, [], h => h.elim
-- a find as data
noncomputable def findD (o : Option (Int × Int)) : PyData := match o with
  | none => .none
  | some p => .list [.tuple [.int p.1, .int p.2]]
theorem PFat.reads {h : Heap} {o : Option (Int × Int)} {v : Value} (P : PFat h o v) : ∃ as, Reads h v (findD o) as := by
  cases o with
  | none => subst P; exact ⟨_, .none⟩
  | some p =>
    obtain ⟨l, t, ta, tb, n1, n2, rfl, e1, e2, _⟩ := P
    exact ⟨_, .list e1 rfl rfl (.cons (.tuple e2 rfl rfl (.cons (.int _ _) (.cons (.int _ _) .nil))) .nil)⟩
theorem FindsIn.reads {seg news : List (Addr × Obj)} {h₀ h : Heap} {L : Addr} (N : News h₀ L h news) (sub : ∀ q ∈ seg, q ∈ news) : ∀ {os : List (Option (Int × Int))} {vs : List Value}, FindsIn seg os vs → ∃ as, ReadsAll h vs (os.map findD) as
  | [], [], _ => ⟨_, .nil⟩
  | _ :: _, _ :: _, h => by
    obtain ⟨as, r⟩ := PFat.reads (h.1.at N sub)
    obtain ⟨bs, r'⟩ := FindsIn.reads N sub h.2
    exact ⟨_, .cons r r'⟩
  | [], _ :: _, h => h.elim
  | _ :: _, [], h => h.elim
theorem eqv_findD (o : Option (Int × Int)) : PyData.eqv (findD o) (findD o) = true := by
  cases o with
  | none => simp [findD, PyData.eqv]
  | some p => simp [findD, PyData.eqv, PyData.eqvAll]
theorem eqvAll_findD : ∀ os : List (Option (Int × Int)), PyData.eqvAll (os.map findD) (os.map findD) = true
  | [] => by simp [PyData.eqvAll]
  | o :: os => by simp [PyData.eqvAll, eqv_findD o, eqvAll_findD os]
theorem lay_findD (o : Option (Int × Int)) : (findD o).canLay0 = true ∧ (findD o).depth ≤ 2 := by
  cases o with
  | none => simp [findD, PyData.canLay0, PyData.depth]
  | some p => simp [findD, PyData.canLay0, PyData.canLayAll0, PyData.depth, PyData.depthAll]
theorem shaped_findD (o : Option (Int × Int)) : SeqAt.shaped (findD o) = true := by
  cases o with
  | none => simp [SeqAt.shaped, findD, PyData.canLay0, PyData.depth]
  | some p => simp [SeqAt.shaped, findD, PyData.canLay0, PyData.canLayAll0, PyData.depth, PyData.depthAll]
theorem layAll_findD : ∀ os : List (Option (Int × Int)), PyData.canLayAll0 (os.map findD) = true ∧ PyData.depthAll (os.map findD) ≤ 2
  | [] => by simp [PyData.canLayAll0, PyData.depthAll]
  | o :: os => by
    have h := layAll_findD os
    have h' := lay_findD o
    simp only [List.map_cons, PyData.canLayAll0, PyData.depthAll, h.1, h'.1, Bool.and_self, true_and]
    omega
theorem shaped_finds (os : List (Option (Int × Int))) : SeqAt.shaped (.list (os.map findD)) = true := by
  have h := layAll_findD os
  unfold SeqAt.shaped
  refine Bool.and_eq_true_iff.mpr ⟨by rw [PyData.canLay0]; exact h.1, decide_eq_true ?_⟩
  rw [PyData.depth]
  have := h.2
  omega
section
variable {prog : Program} {w : World} {A : Around} {E : Value → Shared → Prop} {s : Shared} {h₀ : Heap} {L : Addr} {Q : Value → Shared → Prop}
-- two finds alike
theorem ne_find {o : Option (Int × Int)} {a b : Value} (ha : PFat s.heap o a) (hb : PFat s.heap o b) (hu : A.units + 64 < cLine) (h : Q (.bool false) s) : wpAny (model prog w) A (compareOp .NotEq a b) Q E s := by
  obtain ⟨as, ra⟩ := ha.reads
  obtain ⟨bs, rb⟩ := hb.reads
  refine ne_dataH ra rb (shaped_findD o) (shaped_findD o) hu ?_
  rw [eqv_findD]; exact h
-- two rows of finds alike
theorem ne_finds {os : List (Option (Int × Int))} {a b : Addr} {oa ob : Obj} {xs ys : List Value} {na nb : Nat} {sa sb news : List (Addr × Obj)} (N : News h₀ L s.heap news) (ma : (a, oa) ∈ news) (mb : (b, ob) ∈ news)
    (ca : oa.cls = .type "list") (cb : ob.cls = .type "list") (da : oa.data = .seq xs.toArray na) (db : ob.data = .seq ys.toArray nb)
    (fa : FindsIn sa os xs) (fb : FindsIn sb os ys) (s1 : ∀ q ∈ sa, q ∈ news) (s2 : ∀ q ∈ sb, q ∈ news) (hu : A.units + 64 < cLine) (h : Q (.bool false) s) : wpAny (model prog w) A (compareOp .NotEq (.ref a) (.ref b)) Q E s := by
  obtain ⟨as, ra⟩ := FindsIn.reads N s1 fa
  obtain ⟨bs, rb⟩ := FindsIn.reads N s2 fb
  refine ne_dataH (.list (N.get ma) ca da (by simpa using ra)) (.list (N.get mb) cb db (by simpa using rb)) (shaped_finds os) (shaped_finds os) hu ?_
  have e : PyData.eqv (.list (os.map findD)) (.list (os.map findD)) = true := by
    simp only [PyData.eqv]; exact eqvAll_findD os
  rw [e]; exact h
end
theorem str_len {cs : List Nat} {n : Nat} (h : cs.length ≤ n) : (⟨cs.toArray⟩ : Str).length ≤ n := by
  show cs.toArray.size ≤ n
  rw [List.size_toArray]; exact h
-- a code object of such a name at a place of the table, or none yet
noncomputable def HasLam (pos : Pos) (q : Str) (ps : List Value) (tl : List (Addr × Obj)) : Prop := codeAmong pos ps = none ∨ ∃ (c' : Addr) (oc : Obj) (vs : Array Value) (t : Tok), codeAmong pos ps = some (.ref c') ∧ (c', oc) ∈ tl ∧ oc.data = .fields vs ∧ vs[1]? = some (.str q t)
-- the table of code objects
noncomputable def TabSt (q : Str) (ps : Array Value) (tl : List (Addr × Obj)) : Prop := TriplesOk ps.toList ∧ ∀ pos, HasLam pos q ps.toList tl
theorem TabSt.nil {q : Str} {tl : List (Addr × Obj)} : TabSt q #[] tl := ⟨trivial, fun _ => .inl rfl⟩
theorem TabSt.up {q : Str} {ps : Array Value} {tl tl' : List (Addr × Obj)} (T : TabSt q ps tl) (sub : ∀ x ∈ tl, x ∈ tl') : TabSt q ps tl' := ⟨T.1, fun pos => by
  rcases T.2 pos with h | ⟨c', oc, vs, t, a, b, c, d⟩
  · exact .inl h
  · exact .inr ⟨c', oc, vs, t, a, sub _ b, c, d⟩⟩
theorem among_app {pos : Pos} {x y : Int} {c : Value} (l : List Value) (h : TriplesOk l) : codeAmong pos (l ++ [rawInt x, rawInt y, c]) = match codeAmong pos l with
    | some d => some d
    | none => if (x == pos.line && y == pos.col) = true then some c else none := by
  fun_induction TriplesOk l with
  | case1 => simp [codeAmong, rawInt]
  | case2 a t b u d rest ih =>
    simp only [List.cons_append, codeAmong]
    by_cases hc : (a == (pos.line : Int) && b == (pos.col : Int)) = true
    · rw [if_pos hc, if_pos hc]
    · rw [if_neg hc, if_neg hc]; exact ih h
  | case3 l h1 h2 => exact h.elim
theorem TabSt.push {q : Str} {ps : Array Value} {tl : List (Addr × Obj)} {pos : Pos} {c' : Addr} {oc : Obj} {vs : Array Value} {t : Tok} (T : TabSt q ps tl) (hd : oc.data = .fields vs) (hv : vs[1]? = some (.str q t)) (hm : (c', oc) ∈ tl) : TabSt q (ps ++ #[rawInt pos.line, rawInt pos.col, .ref c']) tl := by
  refine ⟨?_, fun p => ?_⟩
  · rw [Array.toList_append]; exact TriplesOk_snoc _ _ _ _ T.1
  · unfold HasLam
    rw [Array.toList_append]
    have e : codeAmong p (ps.toList ++ #[rawInt pos.line, rawInt pos.col, Value.ref c'].toList) = _ := among_app (pos := p) (x := pos.line) (y := pos.col) (c := .ref c') ps.toList T.1
    rw [e]
    rcases T.2 p with h | ⟨c2, oc2, vs2, t2, a, b⟩
    · rw [h]
      dsimp only
      split
      · exact .inr ⟨c', oc, vs, t, rfl, hm, hd, hv⟩
      · exact .inl rfl
    · rw [a]
      exact .inr ⟨c2, oc2, vs2, t2, rfl, b⟩
section
variable {M : Model} {A : Around} {E : Value → Shared → Prop} {s : Shared} {h₀ : Heap} {L a c P : Addr} {m mg mb : Str → Option Value} {cn : Str} {cs : Scope} {ccd : Value} {cl : List (Str × Addr)} {news others tl : List (Addr × Obj)}
  {p : Program} {loose : List Str} {mean : ExcName → Option Value} {name qual q : Str} {params : Arguments} {body : Expr} {scope : Scope} {ps : Array Value} {pos : Pos} {firstLine : Nat} {clos : List (Str × Addr)}
-- a lambda is made; its code comes into the table, if it is not there
theorem lam_come {Q : Value → Shared → Prop} (F : Fr h₀ L s.heap m) (N : News h₀ L s.heap news) (T : Top p loose mean mg mb h₀) (C : CodeHd h₀ c P) (hcd : ccd = .ref c) (R : Rem P (tabObj ps) news others) (S : TabSt q ps tl) (hq : q = qual)
    (hcl : closureFor scope (envX cn cs L a ccd cl) = pure clos)
    (h : ∀ f c' ctv ps' ls h' tk, Fr h₀ L h' m → News h₀ L h' ((P, tabObj ps') :: others) → Come h₀ L h' ls → AllNe P ls → (∀ x ∈ others, AllNe x.1 ls) → (f, kla_obj name qual params body scope clos ((mg "__name__").getD .none) c' ctv) ∈ ls →
      SegP (ls ++ tl) (fun g => g.CodeRec (.ref c') qual) → TabSt q ps' (ls ++ tl) → Q (.ref f) { s with heap := h', toks := tk }) :
    wpAny M A (makeFunction name qual params (.expr body) scope (envX cn cs L a ccd cl) [] [] [] pos firstLine) Q E s := by
  subst hq
  obtain ⟨r1, r2, r3⟩ := R.spec
  have N₁ : News h₀ L s.heap ((P, tabObj ps) :: others) := fun x hx => by
    rcases List.mem_cons.mp hx with rfl | hx
    · exact N _ r1
    · exact N _ (r2 _ hx)
  rcases S.2 pos with hn | ⟨c', oc, vs, t, ha, hm, hd, hv⟩
  · refine kla_nest F N₁ T C hcd (.head r3) S.1 hn hcl fun f c' oc vs t ctv h' tk F' N' hd hv l1 l2 => ?_
    have ne : ∀ {x : Addr}, x < c' → AllNe x [(f, kla_obj name q params body scope clos ((mg "__name__").getD .none) c' ctv), (c', oc)] := fun l3 => ⟨Nat.ne_of_gt (Nat.lt_trans l3 l2), Nat.ne_of_gt l3, trivial⟩
    refine h f c' ctv _ [(f, _), (c', oc)] h' tk F' (fun x hx => N' x (.tail _ (.tail _ hx))) (fun x hx => ?_) (ne (l1 _ (.head _))) (fun x hx => ne (l1 x (.tail _ hx))) (.head _) (fun g k => ?_) ((S.up fun x hx => List.mem_append_right _ hx).push hd hv (.tail _ (.head _)))
    · rcases List.mem_cons.mp hx with rfl | hx
      · exact N' _ (.head _)
      · obtain rfl := List.mem_singleton.mp hx
        exact N' _ (.tail _ (.head _))
    · exact ⟨c', oc, vs, t, rfl, k (c', oc) (.tail _ (.head _)), hd, hv⟩
  · refine kla_hit F N₁ T C hcd (.head _) S.1 ha hcl fun f ctv h' tk F' N' l1 => ?_
    refine h f c' ctv _ [(f, _)] h' tk F' (fun x hx => N' x (.tail _ hx)) (fun x hx => ?_) ⟨Nat.ne_of_gt (l1 _ (.head _)), trivial⟩ (fun x hx => ⟨Nat.ne_of_gt (l1 x (.tail _ hx)), trivial⟩) (.head _) (fun g k => ?_) (S.up fun x hx => List.mem_append_right _ hx)
    · obtain rfl := List.mem_singleton.mp hx
      exact N' _ (.head _)
    · exact ⟨c', oc, vs, t, rfl, k (c', oc) (List.mem_append_right _ hm), hd, hv⟩
end
theorem CtP.of {K : Params → Frag} {w : World} {f : Addr} {Pre : Heap → Prop} {dd uu : Nat} {vs : List Value} {Post : Heap → Heap → Value → Prop}
    (h : ∀ g, Pre g → ∃ vs' Pre', CtP K w f Pre' dd uu vs' Post ∧ vs' = vs ∧ Pre' g) : CtP K w f Pre dd uu vs Post := by
  unfold CtP
  intro p loose mean mg mb dp un gd env outer A₀ base h₀ L m sh sg sd st so Q E B F X T hf hk hp hdp hu hret
  obtain ⟨vs', Pre', C, rfl, hp'⟩ := h _ hp
  exact C _ _ _ _ _ _ _ _ _ _ _ _ _ _ _ _ _ _ _ _ _ _ B F X T hf hk hp' hdp hu hret
theorem law_moved_c (w : World) (v : Value) (o : Option (Int × Int)) (bb : Int) (t : Tok) : CtP Mine.kx.heap_1 w 833 (fun h => PFat h o v) 4 200 [v, .int bb t] (PF (o.map (sh bb))) := by
  refine CtP.of fun g hp => ?_
  cases o with
  | none =>
    obtain rfl : v = .none := hp
    exact ⟨_, _, law_moved0_c w bb t, rfl, trivial⟩
  | some p =>
    obtain ⟨l, tt, ta, tb, n1, n2, rfl, e1, e2, ne⟩ := hp
    exact ⟨_, _, law_moved1_c w l tt bb p.1 p.2 t ta tb n1 n2 ne, rfl, e1, e2⟩
theorem searchF_in {cds ps : List Int} {bs p bound : Int} {folds : Bool} {q : Int × Int} (h : searchF cds bs folds ps p bound = some q) (h0 : bs ≤ p) : (bs ≤ q.1 ∧ q.1 ≤ bs + cds.length) ∧ (bs ≤ q.2 ∧ q.2 ≤ bs + cds.length) := by
  unfold searchF at h
  cases e : findUp (isHere cds bs folds ps) p (min bound (bs + cds.length) - ps.length + 1 - p).toNat with
  | none => rw [e] at h; cases h
  | some a =>
    rw [e] at h
    have hq : (a, a + (ps.length : Int)) = q := Option.some.inj h
    have := findUp_mem e
    subst hq
    dsimp only
    omega
theorem searchB_in {cds ps : List Int} {bs p bound : Int} {folds : Bool} {q : Int × Int} (h : searchB cds bs folds ps p bound = some q) (h0 : p ≤ bs + cds.length) : (bs ≤ q.1 ∧ q.1 ≤ bs + cds.length) ∧ (bs ≤ q.2 ∧ q.2 ≤ bs + cds.length) := by
  unfold searchB at h
  cases e : findDown (isHere cds bs folds ps) (p - ps.length) (p - ps.length - (max bound bs - 1)).toNat with
  | none => rw [e] at h; cases h
  | some a =>
    rw [e] at h
    have hq : (a, a + (ps.length : Int)) = q := Option.some.inj h
    have := findDown_mem e
    subst hq
    dsimp only
    omega
-- what stands between the turns of the comprehension of moved finds
noncomputable def MovR (bb : Int) (os : List (Option (Int × Int))) (news : List (Addr × Obj)) (i : Nat) (ys : List Value) (nx : List (Addr × Obj)) : Prop := ∃ fs, nx = fs ++ news ∧ FindsIn fs ((os.take i).map (Option.map (sh bb))) ys
section
variable {prog : Program} {w : World} {A : Around} {s : Shared} {h₀ : Heap} {L : Addr} {m : Str → Option Value} {env : Env}
open LCg in
theorem comp_moved {elt : Expr} {x : Str} {scope : Scope} {cl : List (Str × Addr)} {S : List (Addr × Obj) → Prop} {Fin : List Value → List (Addr × Obj) → Prop} {bb : Int} {os : List (Option (Int × Int))} {vs : List Value} {seg news : List (Addr × Obj)} (V : FindsIn seg os vs)
    (turn : ∀ (i : Nat) o v ys fs I oI C oC D m₂ h tk (E' : Value → Shared → Prop), os[i]? = some o → FindIn seg o v → FindsIn fs ((os.take i).map (Option.map (sh bb))) ys → NsObj oC m₂ → m₂ x = some v → Fr h₀ L h m → News h₀ L h ((I, oI) :: (C, oC) :: (D, lst ys) :: (fs ++ news)) → Off3 I C D (fs ++ news) → ((@Ne Nat I C) ∧ (@Ne Nat I D) ∧ (@Ne Nat C D)) →
      wpAny (model prog w) A (eval elt (compEnvC scope cl C env)) (CompEnd h₀ L m { s with heap := h, toks := tk } I oI C oC D (lst ys) S (fun y news' => MovR bb os news (i + 1) (ys ++ [y]) news')) E' { s with heap := h, toks := tk })
    (fin : ∀ ys fs, FindsIn fs (os.map (Option.map (sh bb))) ys → Fin ys (fs ++ news)) : CompRest prog w A h₀ L m env elt x scope cl s S (fun i v => vs.toArray[i]? = some v) Fin vs.toArray.size 0 [] news := by
  rw [List.size_toArray]
  refine comp_ind (fun i ys nx => MovR bb os news i ys nx) ⟨[], rfl, trivial⟩ ?_ ?_
  · rintro i ys nx v I oI C oC D m₂ h tk E' hi ⟨fs, rfl, hI⟩ hv hC hx F N off ne
    have hv' : vs[i]? = some v := by simpa using hv
    obtain ⟨o, ho, hf⟩ := V.get hv'
    exact turn i o v ys fs I oI C oC D m₂ h tk E' ho hf hI hC hx F N off ne
  · rintro ys nx ⟨fs, rfl, hI⟩
    rw [V.length, List.take_length] at hI
    exact fin ys fs hI
open LCg in
-- a turn's end of comp_moved
theorem moved_end {s₁ : Shared} {I C D : Addr} {oI oC oD : Obj} {S : List (Addr × Obj) → Prop} {y : Value} {h h' : Heap} {tk i : Nat} {bb : Int} {o : Option (Int × Int)} {os : List (Option (Int × Int))} {ys : List Value} {fs news : List (Addr × Obj)}
    (Fo : Fr h₀ L h m) (F : Fr h₀ L h' m) (No : News h₀ L h ((I, oI) :: (C, oC) :: (D, oD) :: (fs ++ news))) (N : News h₀ L h' ((I, oI) :: (C, oC) :: (D, oD) :: (fs ++ news))) (off : Off3 I C D (fs ++ news)) (P : PF (o.map (sh bb)) h h' y) (ho : os[i]? = some o) (hI : FindsIn fs ((os.take i).map (Option.map (sh bb))) ys) (hS : ∀ fs, S (fs ++ news)) :
    CompEnd h₀ L m s₁ I oI C oC D oD S (fun y nx => MovR bb os news (i + 1) (ys ++ [y]) nx) y { s₁ with heap := h', toks := tk } := by
  obtain ⟨gs, hg, K, ne⟩ := PF.come Fo No P
  have nI := ne _ (List.Mem.head _)
  have nC := ne _ (List.Mem.tail _ (List.Mem.head _))
  have nD := ne _ (List.Mem.tail _ (List.Mem.tail _ (List.Mem.head _)))
  refine CompEnd.intro F (ins3 K N) (gs ++ (fs ++ news)) (fun p hp => ?_) (Off3.of fun p hp => ?_) (by rw [← List.append_assoc]; exact hS _) ⟨gs ++ fs, by rw [List.append_assoc], ?_⟩
  · simp only [List.mem_cons] at hp ⊢
    rcases hp with h | h | h | h <;> simp [h]
  · rcases List.mem_append.mp hp with hp | hp
    · exact ⟨AllNe.ne nI hp, AllNe.ne nC hp, AllNe.ne nD hp⟩
    · exact off.mem _ hp
  · rw [List.take_add_one, ho]
    simp only [Option.toList_some, List.map_append, List.map_cons, List.map_nil]
    exact FindsIn.snoc (FindsIn.up (fun q hq => List.mem_append_right _ hq) hI) (hg.up fun q hq => List.mem_append_left _ hq)
end
-- what the law's loop keeps
noncomputable def LoopI (dk P x lc ls dc : Addr) (cds ps ss dcs : List Int) (bs : Int) (cells : List (Addr × Obj)) (q : Str) (pt : Array Value) (tl : List (Addr × Obj)) : Prop :=
  SegP tl (fun h => ViewIn h x cds bs) ∧ SegP tl (fun h => IntsIn h lc ps) ∧ SegP tl (fun h => IntsIn h ls ss) ∧ SegP tl (fun h => IntsIn h dc dcs) ∧ (∀ c ∈ cells, c ∈ tl) ∧ AllNe dk tl ∧ AllNe P tl ∧ dk ≠ P ∧ TabSt q pt tl
theorem LoopI.up {dk P x lc ls dc : Addr} {cds ps ss dcs : List Int} {bs : Int} {cells : List (Addr × Obj)} {q : Str} {pt pt' : Array Value} {tl tl' : List (Addr × Obj)} (h : LoopI dk P x lc ls dc cds ps ss dcs bs cells q pt tl)
    (sub : ∀ c ∈ tl, c ∈ tl') (a : AllNe dk tl') (b : AllNe P tl') (T : TabSt q pt' tl') : LoopI dk P x lc ls dc cds ps ss dcs bs cells q pt' tl' :=
  ⟨h.1.up sub, h.2.1.up sub, h.2.2.1.up sub, h.2.2.2.1.up sub, fun c hc => sub _ (h.2.2.2.2.1 c hc), a, b, h.2.2.2.2.2.2.2.1, T⟩
-- the loop's state
structure LS where
  k : Int
  tk : Tok
  n : Nat
  ps : Array Value
  tl : List (Addr × Obj)
theorem mem_ix {α : Type} {l : List α} {q : α} (i : Nat) (h : l[i]? = some q) : q ∈ l := List.mem_of_getElem? h
-- some of a ledger, by their places
theorem News.pick {h₀ h : Heap} {L : Addr} {l : List (Addr × Obj)} (N : News h₀ L h l) (is : List Nat) : News h₀ L h (is.filterMap (l[·]?)) := fun q hq => by
  obtain ⟨i, _, e⟩ := List.mem_filterMap.mp hq
  exact N q (List.mem_of_getElem? e)
theorem loop_in {h₀ h : Heap} {L lS t1 D1 D2 x d D3 t3 dk dc c1 c2 c3 c4 c5 c6 P : Addr} {wsS ys1 ys2 ysd : List Value} {nS n2 : Nat} {ot1 oD3 ot3 odk o1 o2 o3 o4 o5 o6 : Obj} {h1 h2 : Int} {k1 k2 tb : Tok} {bs : Int} {ss ps cds dcs : List Int} {q : Str}
    (N : News h₀ L h [(lS, listOf wsS.toArray nS), (t1, ot1), (D1, LCg.lst ys1), (D2, listOf ys2.toArray n2), (x, instObj 626 d), (d, dictOf [⟨h1, .str (Str.ofString "codes") k1, .ref D2⟩, ⟨h2, .str (Str.ofString "place") k2, .int bs tb⟩] 2), (D3, oD3), (t3, ot3), (dk, odk), (dc, LCg.lst ysd), (c6, o6), (c5, o5), (c4, o4), (c3, o3), (c2, o2), (c1, o1), (P, tabObj #[])])
    (iS : IntsAre wsS ss) (i1 : IntsAre ys1 ps) (i2 : IntsAre ys2 cds) (iD : IntsAre ysd dcs) (hc : cds.length ≤ 1000) (hb : -1000 < bs ∧ bs < 1000)
    (A : AllNe dk [(lS, listOf wsS.toArray nS), (D1, LCg.lst ys1), (D2, listOf ys2.toArray n2), (x, instObj 626 d), (d, dictOf [⟨h1, .str (Str.ofString "codes") k1, .ref D2⟩, ⟨h2, .str (Str.ofString "place") k2, .int bs tb⟩] 2), (dc, LCg.lst ysd), (c6, o6), (c5, o5), (c4, o4), (c3, o3), (c2, o2), (c1, o1)])
    (B : AllNe P [(lS, listOf wsS.toArray nS), (D1, LCg.lst ys1), (D2, listOf ys2.toArray n2), (x, instObj 626 d), (d, dictOf [⟨h1, .str (Str.ofString "codes") k1, .ref D2⟩, ⟨h2, .str (Str.ofString "place") k2, .int bs tb⟩] 2), (dc, LCg.lst ysd), (c6, o6), (c5, o5), (c4, o4), (c3, o3), (c2, o2), (c1, o1)])
    (hdP : dk ≠ P) :
    ∃ (P' : Addr) (tl : List (Addr × Obj)), P' = P ∧ dk ≠ P' ∧ News h₀ L h ((dk, odk) :: (P', tabObj #[]) :: tl) ∧ LoopI dk P' x D1 lS dc cds ps ss dcs bs [(c6, o6), (c5, o5), (c4, o4), (c3, o3), (c2, o2), (c1, o1)] q #[] tl := by
  refine ⟨P, _, rfl, hdP, News.pick N [8, 16, 0, 2, 3, 4, 5, 9, 10, 11, 12, 13, 14, 15], ?_, ?_, ?_, ?_, ?_, A, B, hdP, TabSt.nil⟩
  · exact fun g k => ⟨d, D2, ys2, 2, h1, h2, k1, k2, tb, k (x, instObj 626 d) (mem_ix 3 rfl), k (d, dictOf [⟨h1, .str (Str.ofString "codes") k1, .ref D2⟩, ⟨h2, .str (Str.ofString "place") k2, .int bs tb⟩] 2) (mem_ix 4 rfl), ⟨_, k (D2, listOf ys2.toArray n2) (mem_ix 2 rfl), rfl, _, rfl⟩, i2, hc, hb⟩
  · exact fun g k => ⟨ys1, ⟨_, k (D1, LCg.lst ys1) (mem_ix 1 rfl), rfl, _, rfl⟩, i1⟩
  · exact fun g k => ⟨wsS, ⟨_, k (lS, listOf wsS.toArray nS) (mem_ix 0 rfl), rfl, _, rfl⟩, iS⟩
  · exact fun g k => ⟨ysd, ⟨_, k (dc, LCg.lst ysd) (mem_ix 5 rfl), rfl, _, rfl⟩, iD⟩
  · exact fun c hc => .tail _ (.tail _ (.tail _ (.tail _ (.tail _ (.tail _ hc)))))
theorem turn_in {h₀ h : Heap} {L I dk P : Addr} {oI od ot : Obj} {tl : List (Addr × Obj)} (N : News h₀ L h ((I, oI) :: (dk, od) :: (P, ot) :: tl)) (off : AllNe I ((dk, od) :: (P, ot) :: tl)) (hd : dk ≠ P) (A : AllNe dk tl) :
    News h₀ L h ((dk, od) :: (I, oI) :: (P, ot) :: tl) ∧ AllNe dk ((I, oI) :: (P, ot) :: tl) ∧ AllNe I tl ∧ @Ne Nat P I ∧ @Ne Nat I dk ∧ @Ne Nat P dk := by
  refine ⟨fun q hq => N q ?_, ⟨Ne.symm off.1, Ne.symm hd, A⟩, off.2.2, off.2.1, Ne.symm off.1, Ne.symm hd⟩
  simp only [List.mem_cons] at hq ⊢
  rcases hq with h | h | h | h <;> simp [h]
-- three addresses apart from new objects
theorem up3 {a b c : Addr} {oa ob oc : Obj} {fs tl news : List (Addr × Obj)} (A : AllNe a tl ∧ AllNe b tl ∧ AllNe c tl) (K : ∀ p ∈ news, AllNe p.1 fs) (ma : (a, oa) ∈ news) (mb : (b, ob) ∈ news) (mc : (c, oc) ∈ news) : AllNe a (fs ++ tl) ∧ AllNe b (fs ++ tl) ∧ AllNe c (fs ++ tl) :=
  ⟨AllNe.app (K _ ma) A.1, AllNe.app (K _ mb) A.2.1, AllNe.app (K _ mc) A.2.2⟩
theorem KB.turn0 {k : Int} {i : Nat} (h : KB k (18 + 4 * (i : Int))) (hi : i < 4) : KB k 30 := ⟨h.1, by have := h.2; omega⟩
theorem KB.four {k : Int} {i : Nat} (h : KB k (18 + 4 * (i : Int))) : KB (k + 1 + 1 + 1 + 1) (18 + 4 * ((i + 1 : Nat) : Int)) := ⟨by have := h.1; omega, by have := h.2; omega⟩
theorem many_ok {cs : List Nat} {m : Int} (h : cs.length ≤ 9) (h0 : 1 ≤ m) (h1 : m ≤ 3) : 1 ≤ (((⟨cs.toArray⟩ : Str).length : Nat) : Int) + m ∧ (((⟨cs.toArray⟩ : Str).length : Nat) : Int) + m ≤ 20 := by
  have e : (⟨cs.toArray⟩ : Str).length = cs.length := by show cs.toArray.size = _; rw [List.size_toArray]
  rw [e]; omega
theorem SS_len {cds ps : List Int} {folds : Bool} (h : cds.length ≤ 9) : (SS cds ps folds).length ≤ 1000 := by
  unfold SS
  have h1 := List.length_filter_le (isHere cds 0 folds ps) (rangeKs 0 ((cds.length : Int) - ps.length + 1).toNat)
  rw [rangeKs_length] at h1
  omega
section
variable {prog : Program} {w : World} {A : Around} {E : Value → Shared → Prop} {s : Shared} {env : Env} {h₀ : Heap} {x : Str} {body : List Stmt} {Q : Flow → Shared → Prop}
theorem range_T {σ : Type} {r : Addr} {a₀ b₀ : Int} {t₀ u₀ v₀ : Tok} {m₀ : Str → Option Value} (n : Nat) (stored : List Str) (own : σ → List (Addr × Obj)) (P : Nat → σ → Prop) (st₀ : σ)
    (hh : A.handled = none) (hr : IsRange s.heap r a₀ b₀ 1 t₀ u₀ v₀) (hsmall : Builtin.Range.small a₀ b₀ 1 = true) (hn : (b₀ - a₀).toNat = n) (F : Fr h₀ env.locals s.heap m₀) (N : News h₀ env.locals s.heap (own st₀)) (hp : P 0 st₀)
    (turn : ∀ (i : Nat) t (u : Str → Option Value) st h tk I oI, i < n → P i st → AllNe I (own st) → Fr h₀ env.locals h (fun y => if y = x then some (.int (a₀ + i) t) else if stored.contains y then u y else m₀ y) → News h₀ env.locals h ((I, oI) :: own st) →
      wpAny (model prog w) A (execs body env) (PostX h₀ env.locals (JS [x] stored m₀ own [] (P (i + 1))) I oI { s with heap := h, toks := tk } Q) E { s with heap := h, toks := tk })
    (done : ∀ (u : Str → Option Value) st h tk, P n st → Fr h₀ env.locals h (fun y => if y = x then u y else if stored.contains y then u y else m₀ y) → News h₀ env.locals h (own st) → Q .next { s with heap := h, toks := tk }) :
    wpAny (model prog w) A (pyIter (.ref r)) (fun it s₂ => LoopAtV prog w A h₀ env x body Q E it s₂) E s := by
  refine range_S n stored own P st₀ (news := []) hh hr hsmall hn F (by rw [List.append_nil]; exact N) hp (fun i t u st h tk I oI hi hP off F' N' => ?_) (fun u st h tk hP F' N' => ?_)
  · rw [List.append_nil] at off N'
    exact turn i t u st h tk I oI hi hP off F' N'
  · rw [List.append_nil] at N'
    exact done u st h tk hP F' N'
end
theorem jt_end {σ : Type} {xs stored : List Str} {m₀ m' : Str → Option Value} {own : σ → List (Addr × Obj)} {news' : List (Addr × Obj)} {P : σ → Prop} {h₀ : Heap} {L I : Addr} {oI : Obj} {s₁ : Shared} {h' : Heap} {tk : Nat} (st : σ)
    (F : Fr h₀ L h' m') (N : News h₀ L h' news') (hI : (I, oI) ∈ news') (hn : ∀ q ∈ own st, q ∈ news') (hoff : ∀ q ∈ own st, q.1 ≠ I)
    (hm : ∀ z, xs.contains z = false → stored.contains z = false → m' z = m₀ z) (hP : P st) : EndX h₀ L (JS xs stored m₀ own [] P) I oI s₁ { s₁ with heap := h', toks := tk } :=
  js_end st F N hI (by rw [List.append_nil]; exact hn) (by rw [List.append_nil]; exact hoff) hm hP
theorem len_text {prog : Program} {w : World} {A : Around} {E : Value → Shared → Prop} {s : Shared} {cs : List Nat} {t : Tok} {n : Nat} {Q : Value → Shared → Prop} (hl : cs.length ≤ n) (hn : n ≤ 100) (h : Q (.int (cs.length : Int) (s.toks + 1)) { s with toks := s.toks + 1 + 1 }) : wpAny (model prog w) A (call (.builtin "len") [.str ⟨cs.toArray⟩ t]) Q E s := by
  have e : (⟨cs.toArray⟩ : Str).length = cs.length := by show cs.toArray.size = _; rw [List.size_toArray]
  refine len_str (by rw [e]; omega) ?_
  rw [e]; exact h
theorem many_ok' {cs : List Nat} {m : Int} (h : cs.length ≤ 9) (h0 : 1 ≤ m) (h1 : m ≤ 3) : 1 ≤ (cs.length : Int) + m ∧ (cs.length : Int) + m ≤ 20 := by omega
theorem draw_seg {tl : List (Addr × Obj)} {l : Addr} {cs : List Int} (_ : SegP tl (fun h => IntsIn h l cs)) (w : World) (D : Addr) (k many : Int) (tk t : Tok) (n : Nat) (hk : 0 ≤ k ∧ k ≤ 100) (hm : 1 ≤ many ∧ many ≤ 20) :
    CtM Mine.kx.heap_1 w 806 (fun h => IntsIn h l cs ∧ cs.length ≤ 63) 2 100 [.ref D, .int many t] [(D, listOf #[.ref l, .int k tk] n)] (PD D l k many) := draw_c w D l cs k many tk t n hk hm
theorem drop1 {h₀ h : Heap} {L : Addr} {p : Addr × Obj} {l : List (Addr × Obj)} (N : News h₀ L h (p :: l)) : News h₀ L h l := fun q hq => N q (.tail _ hq)
theorem ahead_seg {tl : List (Addr × Obj)} {l : Addr} {ss : List Int} (_ : SegP tl (fun h => IntsIn h l ss)) (w : World) (size place bound : Int) (t u z : Tok) :
    CtP Mine.kx.heap_1 w 816 (fun h => IntsIn h l ss ∧ ss.length ≤ 1000) 4 200 [.ref l, .int size z, .int place t, .int bound u] (PF (lawAhead ss size place bound)) := law_ahead_c w l ss size place bound t u z
theorem back_seg {tl : List (Addr × Obj)} {l : Addr} {ss : List Int} (_ : SegP tl (fun h => IntsIn h l ss)) (w : World) (size place bound : Int) (t u z : Tok) :
    CtP Mine.kx.heap_1 w 821 (fun h => IntsIn h l ss ∧ ss.length ≤ 1000) 4 200 [.ref l, .int size z, .int place t, .int bound u] (PF (lawBack ss size place bound)) := law_back_c w l ss size place bound t u z
theorem often_seg {tl : List (Addr × Obj)} {l : Addr} {ss : List Int} (_ : SegP tl (fun h => IntsIn h l ss)) (w : World) (size place bound count : Int) (t u z c : Tok) (hc : -10 ≤ count ∧ count ≤ 10) :
    CtP Mine.kx.heap_1 w 828 (fun h => IntsIn h l ss ∧ ss.length ≤ 1000) 6 300 [.ref l, .int size z, .int place t, .int bound u, .int count c] (PF (often (lawStep ss size bound count) (fun q => if 0 < count then q.2 else q.1) count.natAbs place none)) := law_often_c w l ss size place bound count t u z c hc
theorem drawn_in {lets : List Nat} {ys : List Value} {cs : List Nat} (h : Drawn lets ys cs) (k : ∀ c ∈ lets, c ∈ [97, 98, 65, 66]) : ∀ c ∈ cs, c ∈ [97, 98, 65, 66] := fun c hc => k c (h.2 c hc)
theorem stands_seg {tl : List (Addr × Obj)} {l : Addr} {cs qs : List Nat} {folds : Bool} (S : SegP tl (fun h => IntsIn h l (stands ⟨cs.toArray⟩ ⟨qs.toArray⟩ folds))) (hc : ∀ c ∈ cs, c ∈ [97, 98, 65, 66]) (hq : ∀ c ∈ qs, c ∈ [97, 98, 65, 66]) (hl : cs.length ≤ 9) :
    SegP tl (fun h => IntsIn h l (SS (ofN cs) (ofN qs) folds)) ∧ (SS (ofN cs) (ofN qs) folds).length ≤ 1000 := by
  rw [stands_law hc hq] at S
  exact ⟨S, SS_len (by rw [ofN_length]; exact hl)⟩
theorem drop_mid {h₀ h : Heap} {L : Addr} {p q : Addr × Obj} {T : List (Addr × Obj)} (N : News h₀ L h (p :: q :: T)) : News h₀ L h (p :: T) := fun x hx => N x (by
  rcases List.mem_cons.mp hx with rfl | hx
  · exact .head _
  · exact .tail _ (.tail _ hx))
theorem due_in {h₀ h : Heap} {L l a b c : Addr} {o oa ob oc : Obj} {T : List (Addr × Obj)} (N : News h₀ L h ((l, o) :: (a, oa) :: (b, ob) :: (c, oc) :: T)) (l1 : a < l ∧ b < l ∧ c < l ∧ AllLt l T) :
    ∃ d : Addr, d = l ∧ News h₀ L h ((d, o) :: (a, oa) :: (b, ob) :: (c, oc) :: T) ∧ AllNe d ((a, oa) :: (b, ob) :: (c, oc) :: T) ∧ @Ne Nat c d := by
  refine ⟨l, rfl, N, ⟨Nat.ne_of_lt l1.1, Nat.ne_of_lt l1.2.1, Nat.ne_of_lt l1.2.2.1, ?_⟩, Nat.ne_of_lt l1.2.2.1⟩
  have : ∀ {T : List (Addr × Obj)}, AllLt l T → AllNe l T := fun {T} => by
    induction T with
    | nil => exact fun _ => trivial
    | cons p r ih => exact fun h => ⟨Nat.ne_of_lt h.1, ih h.2⟩
  exact this l1.2.2.2
theorem told_in {h₀ h : Heap} {L l e a b c : Addr} {o oe oa ob oc : Obj} {T : List (Addr × Obj)} (N : News h₀ L h ((l, o) :: (e, oe) :: (a, oa) :: (b, ob) :: (c, oc) :: T)) (l1 : e < l ∧ a < l ∧ b < l ∧ c < l ∧ AllLt l T) :
    ∃ d : Addr, d = l ∧ News h₀ L h ((d, o) :: (e, oe) :: (a, oa) :: (b, ob) :: (c, oc) :: T) ∧ AllNe d ((e, oe) :: (a, oa) :: (b, ob) :: (c, oc) :: T) ∧ @Ne Nat c d := by
  obtain ⟨d, rfl, _, A, n⟩ := due_in (drop_mid N) l1.2
  exact ⟨d, rfl, N, ⟨Nat.ne_of_lt l1.1, A⟩, n⟩
theorem cnt_ok {r : Int} (h0 : 0 ≤ r) (h1 : r < 3) : -10 ≤ 1 + r ∧ 1 + r ≤ 10 := by omega
theorem cnt_ok' {r : Int} (h0 : 0 ≤ r) (h1 : r < 3) : -10 ≤ 0 - (1 + r) ∧ 0 - (1 + r) ≤ 10 := by omega
theorem rng_ok {p b : Int} {n : Nat} {m : Int} (h0 : 0 ≤ p) (h1 : p < (n : Int) + m) (hm : m ≤ 3) (hn : n ≤ 9) (b0 : 0 ≤ b) (b1 : b < 4) : -1000000 < p + b ∧ p + b < 1000000 := by omega
theorem searchF_seg {tl : List (Addr × Obj)} {x l : Addr} {cds ps : List Int} {bs : Int} (_ : SegP tl (fun h => ViewIn h x cds bs)) (_ : SegP tl (fun h => IntsIn h l ps)) (w : World) (place bound : Int) (t u : Tok) (folds : Bool) :
    CtP Mine.kx.heap_1 w 644 (fun h => ViewIn h x cds bs ∧ IntsIn h l ps ∧ ps.length ≤ 1000 ∧ -1000000 < place ∧ place < 1000000 ∧ -1000000 < bound ∧ bound < 1000000) 4 60 [.ref x, .int place t, .ref l, .int bound u, .bool folds] (PF (searchF cds bs folds ps place bound)) := search_forward_c w x l cds ps bs place bound t u folds
theorem searchB_seg {tl : List (Addr × Obj)} {x l : Addr} {cds ps : List Int} {bs : Int} (_ : SegP tl (fun h => ViewIn h x cds bs)) (_ : SegP tl (fun h => IntsIn h l ps)) (w : World) (place bound : Int) (t u : Tok) (folds : Bool) :
    CtP Mine.kx.heap_1 w 651 (fun h => ViewIn h x cds bs ∧ IntsIn h l ps ∧ ps.length ≤ 1000 ∧ -1000000 < place ∧ place < 1000000 ∧ -1000000 < bound ∧ bound < 1000000) 4 60 [.ref x, .int place t, .ref l, .int bound u, .bool folds] (PF (searchB cds bs folds ps place bound)) := search_backward_c w x l cds ps bs place bound t u folds
theorem pre_search {tl news : List (Addr × Obj)} {x l L : Addr} {cds ps : List Int} {bs p b : Int} {h₀ h : Heap} (SV : SegP tl (fun h => ViewIn h x cds bs)) (SI : SegP tl (fun h => IntsIn h l ps)) (N : News h₀ L h news) (sub : ∀ q ∈ tl, q ∈ news) (hl : ps.length ≤ 1000) (a1 : -1000000 < p ∧ p < 1000000) (a2 : -1000000 < b ∧ b < 1000000) :
    ViewIn h x cds bs ∧ IntsIn h l ps ∧ ps.length ≤ 1000 ∧ -1000000 < p ∧ p < 1000000 ∧ -1000000 < b ∧ b < 1000000 := ⟨SV.use N sub, SI.use N sub, hl, a1.1, a1.2, a2.1, a2.2⟩
section
variable {M : Model} {A : Around} {E : Value → Shared → Prop} {s : Shared} {h₀ : Heap} {L a : Addr} {m : Str → Option Value} {cn : Str} {cs : Scope} {ccd : Value} {cl : List (Str × Addr)} {x : Str} {pos : Pos} {v : Value} {Q : Value → Shared → Prop} {c : Addr} {o : Obj}
theorem nameX_G (F : Fr h₀ L s.heap m) (hc : cl.lookup x = some c) (hg : h₀.get? c = some o) (hd : o.data = .cell (some v)) (h : Q v s)
    (hk : cs.kind = .function := by rfl) (hx : (envX cn cs L a ccd cl).kindOf x = some .free := by rfl) (hb : (x == ("__debug__" : Str)) = false := by decide) (hn : (x == ("__classdict__" : Str)) = false := by decide) :
    wpAny M A (eval (.Name x pos) (envX cn cs L a ccd cl)) Q E s := wpAny_Name (wpAny_loadName_free hk hx hc ⟨o, F.keep _ _ hg, hd⟩ h hn) hb
end
-- a segment stands in a heap
noncomputable def Stands (seg : List (Addr × Obj)) (h : Heap) : Prop := ∀ q ∈ seg, h.get? q.1 = some q.2
theorem Stands.mono (seg : List (Addr × Obj)) : ∀ h h' : Heap, h.StaysIn h' → Stands seg h → Stands seg h' := fun _ _ k s q hq => k _ _ (s q hq)
theorem Stands.of {h₀ h : Heap} {L : Addr} {ls tl news : List (Addr × Obj)} (N : News h₀ L h news) (s1 : ∀ q ∈ ls, q ∈ news) (s2 : ∀ q ∈ tl, q ∈ news) : Stands (ls ++ tl) h := fun q hq => (List.mem_append.mp hq).elim (fun h => (N q (s1 q h)).1) fun h => (N q (s2 q h)).1
theorem rot5 {h₀ h : Heap} {L : Addr} {p a b c d : Addr × Obj} {T : List (Addr × Obj)} (N : News h₀ L h (p :: a :: b :: c :: d :: T)) : News h₀ L h (a :: b :: c :: d :: p :: T) := fun q hq => N q (by
  simp only [List.mem_cons] at hq ⊢
  rcases hq with h | h | h | h | h | h <;> simp [h])
theorem up3L {a b P : Addr} {oa ob : Obj} {ls T others : List (Addr × Obj)} (A : AllNe a T ∧ AllNe b T ∧ AllNe P T) (K : ∀ p ∈ others, AllNe p.1 ls) (cP : AllNe P ls) (ma : (a, oa) ∈ others) (mb : (b, ob) ∈ others) : AllNe a (ls ++ T) ∧ AllNe b (ls ++ T) ∧ AllNe P (ls ++ T) :=
  ⟨AllNe.app (K _ ma) A.1, AllNe.app (K _ mb) A.2.1, AllNe.app cP A.2.2⟩
theorem aT_up {d P : Addr} {od o o' : Obj} {a b c : Addr × Obj} {ls T others : List (Addr × Obj)} (A : AllNe d (a :: b :: c :: (P, o) :: T)) (K : ∀ p ∈ others, AllNe p.1 ls) (m : (d, od) ∈ others) : AllNe d (a :: b :: c :: (P, o') :: (ls ++ T)) :=
  ⟨A.1, A.2.1, A.2.2.1, A.2.2.2.1, AllNe.app (K _ m) A.2.2.2.2⟩
theorem againF_seg {tl ls : List (Addr × Obj)} {x lc lS f : Addr} {cds ps : List Int} {bs : Int} {fb : Bool} {oc : Value} {od : Option Addr} {fd : FuncData} {sl : Array (Option Value)} (_ : SegP tl (fun h => ViewIn h x cds bs)) (_ : SegP tl (fun h => IntsIn h lc ps)) (_ : SegP tl (fun h => IntsIn h lS (SS cds ps fb)))
    (mf : (f, (⟨oc, od, .func fd, sl⟩ : Obj)) ∈ ls) (w : World) (hC : ∀ (p : Int) (t : Tok), bs ≤ p → p ≤ bs + cds.length → CtP Mine.kx.heap_1 w f (Stands (ls ++ tl)) 7 160 [.int p t] (PF (searchF cds bs fb ps p (cds.length + bs))))
    (place count : Int) (t u : Tok) (hpl : bs ≤ place ∧ place ≤ bs + cds.length) (hc : -10 ≤ count ∧ count ≤ 10) :
    CtP Mine.kx.heap_1 w 665 (Stands (ls ++ tl)) (7 + 3) (160 + 100) [.ref f, .int place t, .int count u] (PF (often (fun p => searchF cds bs fb ps p (cds.length + bs)) (fun q => if 0 < count then q.2 else q.1) count.natAbs place none)) :=
  again_c w f (Stands (ls ++ tl)) (Stands.mono _) (fun _ s => ⟨_, _, _, _, s _ (List.mem_append_left _ mf)⟩) _ bs (bs + cds.length) 7 160 hC (fun _ _ h1 _ e => searchF_in e h1) place count t u hpl hc
theorem againB_seg {tl ls : List (Addr × Obj)} {x lc lS f : Addr} {cds ps : List Int} {bs : Int} {fb : Bool} {oc : Value} {od : Option Addr} {fd : FuncData} {sl : Array (Option Value)} (_ : SegP tl (fun h => ViewIn h x cds bs)) (_ : SegP tl (fun h => IntsIn h lc ps)) (_ : SegP tl (fun h => IntsIn h lS (SS cds ps fb)))
    (mf : (f, (⟨oc, od, .func fd, sl⟩ : Obj)) ∈ ls) (w : World) (hC : ∀ (p : Int) (t : Tok), bs ≤ p → p ≤ bs + cds.length → CtP Mine.kx.heap_1 w f (Stands (ls ++ tl)) 7 160 [.int p t] (PF (searchB cds bs fb ps p bs)))
    (place count : Int) (t u : Tok) (hpl : bs ≤ place ∧ place ≤ bs + cds.length) (hc : -10 ≤ count ∧ count ≤ 10) :
    CtP Mine.kx.heap_1 w 665 (Stands (ls ++ tl)) (7 + 3) (160 + 100) [.ref f, .int place t, .int count u] (PF (often (fun p => searchB cds bs fb ps p bs) (fun q => if 0 < count then q.2 else q.1) count.natAbs place none)) :=
  again_c w f (Stands (ls ++ tl)) (Stands.mono _) (fun _ s => ⟨_, _, _, _, s _ (List.mem_append_left _ mf)⟩) _ bs (bs + cds.length) 7 160 hC (fun _ _ _ h2 e => searchB_in e h2) place count t u hpl hc
theorem pl_ok {r bs : Int} {n : Nat} (h0 : 0 ≤ r) (h1 : r < (n : Int) + 1) : bs ≤ r + bs ∧ r + bs ≤ bs + n := by omega
theorem strongP {p : Int} {n : Nat} {bs : Int} (h1 : bs ≤ p) (h2 : p ≤ bs + n) (hn : n ≤ 9) (b0 : 0 ≤ bs) (b1 : bs < 4) : -1000000 < p ∧ p < 1000000 := by omega
theorem strongN {n : Nat} {bs : Int} (hn : n ≤ 9) (b0 : 0 ≤ bs) (b1 : bs < 4) : -1000000 < (n : Int) + bs ∧ (n : Int) + bs < 1000000 := by omega
theorem strongB {bs : Int} (b0 : 0 ≤ bs) (b1 : bs < 4) : -1000000 < bs ∧ bs < 1000000 := by omega
theorem rem5 {P a b c d : Addr} {o oa ob oc od : Obj} {T : List (Addr × Obj)} (n1 : P ≠ a) (n2 : P ≠ b) (n3 : c ≠ P) (n4 : P ≠ d) (A : AllNe P T) : Rem P o ((a, oa) :: (b, ob) :: (c, oc) :: (d, od) :: (P, o) :: T) ((a, oa) :: (b, ob) :: (c, oc) :: (d, od) :: T) :=
  .tail (Ne.symm n1) (.tail (Ne.symm n2) (.tail n3 (.tail (Ne.symm n4) (.head (AllNe.all A)))))
theorem pre_lam {ls tl : List (Addr × Obj)} {x l : Addr} {cds ps : List Int} {bs p b : Int} {g h : Heap} (hp : Stands (ls ++ tl) g) (k : g.StaysIn h) (SV : SegP tl (fun h => ViewIn h x cds bs)) (SI : SegP tl (fun h => IntsIn h l ps)) (hl : ps.length ≤ 1000) (a1 : -1000000 < p ∧ p < 1000000) (a2 : -1000000 < b ∧ b < 1000000) :
    ViewIn h x cds bs ∧ IntsIn h l ps ∧ ps.length ≤ 1000 ∧ -1000000 < p ∧ p < 1000000 ∧ -1000000 < b ∧ b < 1000000 :=
  ⟨SV h fun q hq => k _ _ (hp q (List.mem_append_right _ hq)), SI h fun q hq => k _ _ (hp q (List.mem_append_right _ hq)), hl, a1.1, a1.2, a2.1, a2.2⟩
theorem pl_okN {r bs : Int} {cs : List Nat} (h0 : 0 ≤ r) (h1 : r < (cs.length : Int) + 1) : bs ≤ r + bs ∧ r + bs ≤ bs + (ofN cs).length := by rw [ofN_length]; omega
section
variable {fs : List (Addr × Obj)} {cs qs : List Nat} {fb : Bool} {bs p hi c : Int} {v : Value}
theorem told1 (h : FindIn fs (searchF (ofN cs) bs fb (ofN qs) (p + bs) (hi + bs)) v) (h0 : 0 ≤ p) :
    FindIn fs ((lawAhead (SS (ofN cs) (ofN qs) fb) (qs.length : Int) p (if (cs.length : Int) < hi then (cs.length : Int) else hi)).map (sh bs)) v := by
  rw [searchF_law h0, ofN_length, ofN_length, min_ite] at h; exact h
theorem told2 (h : FindIn fs (searchB (ofN cs) bs fb (ofN qs) (p + bs) (hi + bs)) v) (h0 : 0 ≤ hi) (h1 : p < (cs.length : Int) + 1) :
    FindIn fs ((lawBack (SS (ofN cs) (ofN qs) fb) (qs.length : Int) p hi).map (sh bs)) v := by
  rw [searchB_law h0 (by rw [ofN_length]; omega), ofN_length] at h; exact h
theorem told3 {r : Int} (h : FindIn fs (often (fun p => searchF (ofN cs) bs fb (ofN qs) p ((ofN cs).length + bs)) (fun q => if 0 < 1 + r then q.2 else q.1) (1 + r).natAbs (p + bs) none) v) (hr : 0 ≤ r) (h0 : 0 ≤ p) :
    FindIn fs ((often (lawStep (SS (ofN cs) (ofN qs) fb) (qs.length : Int) (cs.length : Int) (1 + r)) (fun q => if 0 < 1 + r then q.2 else q.1) (1 + r).natAbs p none).map (sh bs)) v := by
  rw [often_law_F (by omega) h0, ofN_length, ofN_length] at h; exact h
theorem told4 {r : Int} (h : FindIn fs (often (fun p => searchB (ofN cs) bs fb (ofN qs) p bs) (fun q => if 0 < 0 - (1 + r) then q.2 else q.1) (0 - (1 + r)).natAbs (p + bs) none) v) (hr : 0 ≤ r) (h1 : p < (cs.length : Int) + 1) :
    FindIn fs ((often (lawStep (SS (ofN cs) (ofN qs) fb) (qs.length : Int) 0 (0 - (1 + r))) (fun q => if 0 < 0 - (1 + r) then q.2 else q.1) (0 - (1 + r)).natAbs p none).map (sh bs)) v := by
  rw [often_law_B (by omega) (by rw [ofN_length]; omega), ofN_length] at h; exact h
theorem reS (h : FindIn fs (reSearch (ofN cs) 0 fb ((ofN qs).map (fo fb)) p (ofN cs).length) v) (h0 : 0 ≤ p) :
    FindIn fs (lawAhead (SS (ofN cs) (ofN qs) fb) (qs.length : Int) p (cs.length : Int)) v := by
  rw [reSearch_law h0, ofN_length, ofN_length] at h; exact h
end
theorem quote_seg {tl : List (Addr × Obj)} {l : Addr} {cs : List Nat} {ys : List Value} (_ : SegP tl (fun h => IntsIn h l (ofN cs))) (hR : Drawn [97, 98, 66] ys cs) (hl : cs.length ≤ 3) (w : World) :
    CtP Mine.kx.heap_1 w 679 (fun h => IntsIn h l (ofN cs)) 3 100 [.ref l] (PInts (ofN cs)) := quote_c w l (ofN cs) (by rw [ofN_length]; exact hl) fun c hc => by
  obtain ⟨n, hn, rfl⟩ := List.mem_map.mp hc
  have := hR.2 n hn
  simp only [List.mem_cons, List.not_mem_nil, or_false] at this
  omega
theorem match_seg {cs qs : List Nat} {ys ws zs : List Value} {fb : Bool} {start : Int} (hR : Drawn [97, 98, 66] ys qs) (_ : IntsAre ws (ofN qs)) (_ : IntsAre zs (ofN cs)) (hl : qs.length ≤ 3) (hc : cs.length ≤ 9) (h0 : 0 ≤ start) (h1 : start < (cs.length : Int) + 1) (w : World) (l tx : Addr) (ts : Tok) (tv : Value) :
    CtP Mine.kx.heap_1 w 672 (fun h => IntsIn h l (ofN qs) ∧ IntsIn h tx (ofN cs)) 16 1200 [.ref l, .ref tx, .int start ts, tv, .bool fb] (PF (reSearch (ofN cs) 0 fb ((ofN qs).map (fo fb)) start (ofN cs).length)) :=
  string_match_c w l tx (ofN cs) (ofN qs) fb start ts tv (by rw [ofN_length]; exact hl) (fun c hc => by
    obtain ⟨n, hn, rfl⟩ := List.mem_map.mp hc
    have := hR.2 n hn
    simp only [List.mem_cons, List.not_mem_nil, or_false] at this
    omega) ⟨h0, by omega⟩ (by rw [ofN_length]; omega)
theorem ints_at {h₀ h : Heap} {L l : Addr} {ws : List Value} {ns : List Int} {n : Nat} {news : List (Addr × Obj)} (N : News h₀ L h news) (m : (l, listOf ws.toArray n) ∈ news) (i : IntsAre ws ns) : IntsIn h l ns := ⟨ws, ⟨_, N.get m, rfl, _, rfl⟩, i⟩
theorem src_at {h₀ : Heap} {a : Addr} {its : Array Value} {k : Nat} {nw : List (Addr × Obj)} (m : (a, listOf its k) ∈ nw) (fs : List (Addr × Obj)) : LCg.SrcAt h₀ a its (fs ++ nw) := .inr ⟨_, List.mem_append_right _ m, rfl, _, rfl⟩
section
variable {h₀ h : Heap} {L td du : Addr} {ot : Obj} {a b c : Addr × Obj} {T g1 g2 g3 g4 : List (Addr × Obj)} {u1 u2 u3 u4 v1 v2 v3 v4 : Value} {o1 o2 o3 o4 : Option (Int × Int)} {n m : Nat} {bs : Int}
theorem vd_of (N : News h₀ L h ((td, ot) :: (du, listOf #[v1, v2, v3, v4] n) :: a :: b :: c :: T)) (f1 : FindIn g1 o1 v1) (f2 : FindIn g2 o2 v2) (f3 : FindIn g3 o3 v3) (f4 : FindIn g4 o4 v4)
    (s1 : ∀ q ∈ g1, q ∈ T) (s2 : ∀ q ∈ g2, q ∈ T) (s3 : ∀ q ∈ g3, q ∈ T) (s4 : ∀ q ∈ g4, q ∈ T) : FindsIn T [o1, o2, o3, o4] [v1, v2, v3, v4] := ⟨f1.up s1, f2.up s2, f3.up s3, f4.up s4, trivial⟩
theorem vt_of (N : News h₀ L h ((td, listOf #[u1, u2, u3, u4] m) :: (du, listOf #[v1, v2, v3, v4] n) :: a :: b :: c :: T)) (V : FindsIn T [o1, o2, o3, o4] [v1, v2, v3, v4]) (f1 : FindIn g1 (o1.map (sh bs)) u1) (f2 : FindIn g2 (o2.map (sh bs)) u2) (f3 : FindIn g3 (o3.map (sh bs)) u3) (f4 : FindIn g4 (o4.map (sh bs)) u4)
    (s1 : ∀ q ∈ g1, q ∈ T) (s2 : ∀ q ∈ g2, q ∈ T) (s3 : ∀ q ∈ g3, q ∈ T) (s4 : ∀ q ∈ g4, q ∈ T) : FindsIn T ([o1, o2, o3, o4].map (Option.map (sh bs))) [u1, u2, u3, u4] := ⟨f1.up s1, f2.up s2, f3.up s3, f4.up s4, trivial⟩
end
section
variable {prog : Program} {w : World} {A : Around} {s : Shared} {h₀ : Heap} {L : Addr} {m : Str → Option Value} {env : Env}
open LCg in
theorem comp_moved' {elt : Expr} {x : Str} {scope : Scope} {cl : List (Str × Addr)} {S : List (Addr × Obj) → Prop} {Fin : List Value → List (Addr × Obj) → Prop} {bb : Int} {os : List (Option (Int × Int))} {vs us : List Value} {seg news : List (Addr × Obj)} (_ : FindsIn seg (os.map (Option.map (sh bb))) us) (V : FindsIn seg os vs)
    (turn : ∀ (i : Nat) o v ys fs I oI C oC D m₂ h tk (E' : Value → Shared → Prop), os[i]? = some o → FindIn seg o v → FindsIn fs ((os.take i).map (Option.map (sh bb))) ys → NsObj oC m₂ → m₂ x = some v → Fr h₀ L h m → News h₀ L h ((I, oI) :: (C, oC) :: (D, lst ys) :: (fs ++ news)) → Off3 I C D (fs ++ news) → ((@Ne Nat I C) ∧ (@Ne Nat I D) ∧ (@Ne Nat C D)) →
      wpAny (model prog w) A (eval elt (compEnvC scope cl C env)) (CompEnd h₀ L m { s with heap := h, toks := tk } I oI C oC D (lst ys) S (fun y news' => MovR bb os news (i + 1) (ys ++ [y]) news')) E' { s with heap := h, toks := tk })
    (fin : ∀ ys fs, FindsIn fs (os.map (Option.map (sh bb))) ys → Fin ys (fs ++ news)) : CompRest prog w A h₀ L m env elt x scope cl s S (fun i v => vs.toArray[i]? = some v) Fin vs.toArray.size 0 [] news := comp_moved V turn fin
end
theorem after_cmp {h₀ h : Heap} {L : Addr} {a b c d e D : Addr × Obj} {fs T : List (Addr × Obj)} (N : News h₀ L h (D :: (fs ++ (a :: b :: c :: d :: e :: T)))) : News h₀ L h (c :: d :: e :: T) := fun q hq => N q (.tail _ (List.mem_append_right _ (.tail _ (.tail _ hq))))
section
variable {h₀ h' : Heap} {L : Addr} {a b c d e f g i : Addr × Obj} {fs tl : List (Addr × Obj)}
theorem ins7 (K : Come h₀ L h' fs) (N : News h₀ L h' (a :: b :: c :: d :: e :: f :: g :: tl)) : News h₀ L h' (a :: b :: c :: d :: e :: f :: g :: (fs ++ tl)) := News.cons_of N fun N => ins6 K N
theorem ins8 (K : Come h₀ L h' fs) (N : News h₀ L h' (a :: b :: c :: d :: e :: f :: g :: i :: tl)) : News h₀ L h' (a :: b :: c :: d :: e :: f :: g :: i :: (fs ++ tl)) := News.cons_of N fun N => ins7 K N
end
theorem jt_out {h₀ h' : Heap} {L dk I PT dc : Addr} {oI : Obj} {k : Int} {tk : Tok} {n : Nat} {pt : Array Value} {T : List (Addr × Obj)} {xs stored : List Str} {m₀ m' : Str → Option Value} {P : LS → Prop} {s₁ : Shared} {tk' : Nat}
    (F : Fr h₀ L h' m') (N : News h₀ L h' ((dk, listOf #[.ref dc, .int k tk] n) :: (I, oI) :: (PT, tabObj pt) :: T)) (AA : AllNe dk T ∧ AllNe I T ∧ AllNe PT T) (n1 : PT ≠ I) (n2 : I ≠ dk)
    (hm : ∀ z, xs.contains z = false → stored.contains z = false → m' z = m₀ z) (hP : P ⟨k, tk, n, pt, T⟩) :
    EndX h₀ L (JS xs stored m₀ (fun st : LS => (dk, listOf #[.ref dc, .int st.k st.tk] st.n) :: (PT, tabObj st.ps) :: st.tl) [] P) I oI s₁ { s₁ with heap := h', toks := tk' } := by
  refine jt_end (⟨k, tk, n, pt, T⟩ : LS) F N (.tail _ (.head _)) (fun q hq => ?_) (fun q hq => ?_) hm hP
  · rcases List.mem_cons.mp hq with rfl | hq
    · exact .head _
    · exact .tail _ (.tail _ hq)
  · rcases List.mem_cons.mp hq with rfl | hq
    · exact fun e => n2 e.symm
    · rcases List.mem_cons.mp hq with rfl | hq
      · exact n1
      · exact AllNe.ne AA.2.1 hq
theorem kx_in {K : Params → Frag} (e : K = Mine.kx.heap_1) {p : Params} {h : Heap} (X : (K p).In h) : (Mine.kx.heap_1 p).In h := e ▸ X
section
local macro_rules | `(tactic| k_ne) => `(tactic| first | exact neL | fail)
set_option hygiene false in
local macro_rules | `(tactic| fail "mine kb") => `(tactic| first | (with_reducible assumption) | exact KB.zero | exact KB.one | exact KB.succ (by fail "mine kb"))
set_option hygiene false in
local macro_rules | `(tactic| walk_at "eval ListComp") => `(tactic| (k_here; (with_reducible show wpAny _ _ (eval (Expr.ListComp _ [⟨_, Expr.Call _ _ _ _, _, _⟩] _ _) _) _ _ _); (rename News _ _ _ _ => lN'); (obtain ⟨dk, dc, rfl, rfl, lN9⟩ := deck_name lN'); clear lN'; (first | (with_reducible rename AllNe dk _ => dA) | (have dA := deck_ne lN9 (by k_all))); k_dflt (refine lcUA ?_)))
set_option hygiene false in
local macro_rules | `(tactic| walk_at "eval ListComp") => `(tactic| (k_here; (with_reducible show wpAny _ _ (eval (Expr.ListComp (Expr.Call _ [_] _ _) [⟨_, Expr.Name _ _, _, _⟩] _ _) _) _ _ _); k_dflt (refine ListComp_Txt (h := ?_))))
set_option hygiene false in
local macro_rules | `(tactic| fail "mine sub") => `(tactic| (intro q9 hq9; fail "mine mem"))
set_option hygiene false in
local macro_rules | `(tactic| fail "mine mem2") => `(tactic| first | exact List.Mem.head _ | (refine' List.Mem.tail _ ?_; fail "mine mem2") | (refine List.mem_append.mpr (Or.inr ?_); fail "mine mem2") | (refine List.mem_append.mpr (Or.inl ?_); fail "mine mem2") | (with_reducible assumption) | exact m6 | exact m5 | exact m4 | exact m3 | exact m2 | exact m1 | fail)
set_option hygiene false in
local macro_rules | `(tactic| fail "mine mem9") => `(tactic| first | (with_reducible exact hq9) | (refine List.Mem.tail _ ?_; fail "mine mem9") | (refine List.mem_append.mpr (Or.inr ?_); fail "mine mem9") | (refine List.mem_append.mpr (Or.inl ?_); fail "mine mem9") | fail)
set_option hygiene false in
local macro_rules | `(tactic| fail "mine sub9") => `(tactic| first | (fail "mine mem9") | (rcases List.mem_append.mp hq9 with hq9 | hq9 <;> fail "mine sub9") | fail)
set_option hygiene false in
local macro_rules | `(tactic| fail "mine sub") => `(tactic| (intro q9 hq9; fail "mine sub9"))
set_option hygiene false in
local macro_rules | `(tactic| walk_at "eval ListComp") => `(tactic| (k_here; (with_reducible show wpAny _ _ (eval (Expr.ListComp (Expr.Call _ [_, _] _ _) [⟨_, Expr.Name _ _, _, _⟩] _ _) _) _ _ _); k_dflt (refine lcUA ?_)))
set_option Elab.async true in
theorem hd : PySem.Challenge.rw_np0108_01.Holds := by
  w_on; o_law; k_head; (case hw => w_witness2)
  have zk : Mine.kx.heap_1 = Mine.kx.heap_1 ∧ PySem.Challenge.rw_np0108_01 = PySem.Challenge.rw_np0108_01 := by (k_fill; exact ⟨rfl, rfl⟩)
  clear zk
  w_strict (
    k_go0
    (rename Frag.In _ _ => X9)
    (replace X9 := kx_in (by with_unfolding_all rfl) X9)
    (all_goals try k_fold)
    (repeat' ((fail_if_success (with_reducible show wpAny _ _ (exec (Stmt.Assign _ _ ⟨700, _, _, _⟩) _) _ _ _)); first | fail "unf" | ((with_reducible show GoodW _ _ _ _ _ _ _); first | ((k_dflt (refine' goodW_bool ?qzg1 ?qzg2 ?qzg3 ?qzg4 ?qzg5; (case qzg1 => k_asm); (case qzg2 => k_asm); (case qzg3 => (intro _; kernel_rfl!)); (case qzg4 => kernel_rfl!); (case qzg5 => first | rfl | kernel_rfl!); ))) | fail) | ((with_reducible show wpAny _ _ (eval (Expr.Name _ _) _) _ _ _); first | ((k_here; first | ((with_reducible show wpAny _ _ (eval (Expr.Name _ _) (compEnvC _ _ _ _)) _ _ _); k_dflt (first | (refine' kcf_cell ?qzN ?qzc ?qzm ?qzd ?_ ?qza ?qzb; (case qza => rfl); (case qzb => rfl); (case qzN => k_asm); (case qzc => rfl); (case qzm => fail "mine mem2"); (case qzd => k_asm); k_whole) | (refine' LCgL.ld_own ?qza ?qzb ?qzc ?qzd ?_; (case qza => k_asm); (case qzb => k_mem); (case qzc => assumption); (case qzd => assumption); k_whole) | (refine' LCgL.ld_global ?qza ?qzb ?qzc ?qzd ?_; (case qza => k_asm); (case qzb => k_asm); (case qzc => k_asm); (case qzd => k_is); k_whole) | (refine' LCgL.ld_built ?qza ?qzb ?qzc ?qzd ?qze ?qzf ?_; (case qza => k_asm); (case qzb => k_asm); (case qzc => k_asm); (case qzd => k_is); (case qze => boot_by_name); (case qzf => decide); k_whole))) | k_dflt (first | (refine' name_L ?qzF ?qzv ?qzo ?_; (case qzo => decide +kernel); (case qzF => k_asm); (case qzv => rfl); k_whole) | (refine' name_G ?qzF ?qzX ?qzT ?qze ?qzo ?_; (case qzo => decide +kernel); (case qzF => k_asm); (case qzX => k_asm); (case qzT => k_asm); (case qze => k_is); k_whole) | (refine' name_C ?qzN ?qzc ?qzm ?qzd ?qzo ?_; (case qzo => decide +kernel); (case qzN => k_asm); (case qzc => rfl); (case qzm => fail "mine mem2"); (case qzd => k_asm); k_whole) | (refine' name_I ?qzF ?qzX ?qzT ?qze ?qzv ?qzn ?qzo ?_; (case qzo => decide +kernel); (case qzF => k_asm); (case qzX => k_asm); (case qzT => k_asm); (case qze => k_is); (case qzv => boot_fast); (case qzn => decide); k_whole)))) | ((k_here; (with_reducible show wpAny _ _ (eval (Expr.Name _ _) (compEnvC _ _ _ _)) _ _ _); k_dflt (refine' kcf_cell ?qN ?qc ?qm ?qd ?_ ?qa ?qb; (case qa => rfl); (case qb => rfl); (case qN => k_asm); (case qc => rfl); (case qm => fail "mine mem2"); (case qd => k_asm); k_whole))) | ((k_here; k_dflt (refine' nameX_G ?qF ?qc ?qg ?qd ?_ ?qa ?qb; (case qa => rfl); (case qb => rfl); (case qF => k_asm); (case qc => rfl); (case qg => first | exact g6 | exact g5 | exact g4 | exact g3 | exact g2 | exact g1); (case qd => k_asm); k_whole))) | ((k_here; k_dflt (refine' nameX_C ?qN ?qc ?qm ?qd ?_ ?qa ?qb; (case qa => rfl); (case qb => rfl); (case qN => k_asm); (case qc => rfl); (case qm => fail "mine mem2"); (case qd => k_asm); k_whole))) | fail) | ((with_reducible show wpAny _ _ (callWith _ (Value.ref _) _ _ _) _ _ _); first | ((k_here; k_dflt (first | (refine' callWith_K ?qk1 ?qk2 ?_; (case qk1 => k_asm); (case qk2 => k_is); k_whole) | (refine' callWith_K0F ?qk0 ?qk1 ?qk2 ?_; (case qk0 => k_asm); (case qk1 => k_asm); (case qk2 => k_is); k_whole) | (refine' callWith_KW ?qk1 ?qk2 ?qk3 ?_; (case qk1 => k_asm); (case qk2 => k_is); (case qk3 => exact rfl); k_whole) | (refine' callWith_KW0 ?qk1 ?qk2 ?qk3 ?_; (case qk1 => k_asm); (case qk2 => k_is); (case qk3 => exact rfl); k_whole)))) | ((k_here; k_dflt (refine' callWith_K ?qk1 ?qk2 ?_; (case qk1 => k_asm); (case qk2 => k_is); k_whole))) | fail) | ((with_reducible show EndX _ _ _ _ _ _ _); first | ((k_dflt ((refine' jt_out ?qjF ?qjN AA n1 n2 ?qjm ⟨KB.four hkb, LoopI.up hLI ?qjs AA.1 AA.2.2 (TabSt.up TS ?qjt)⟩; (case qjF => k_asm); (case qjN => first | k_asm | exact drop1 (by k_asm) | exact drop1 (drop1 (by k_asm)) | exact drop1 (drop1 (drop1 (by k_asm))) | exact drop1 (drop1 (drop1 (drop1 (by k_asm)))) | exact drop1 (drop1 (drop1 (drop1 (drop1 (by k_asm)))))); (case qjm => ((intro z h1 h2; (try dsimp +zetaDelta only); (simp only [List.contains_cons, List.contains_nil, Bool.or_false, Bool.or_eq_false_iff, beq_eq_false_iff_ne, ne_eq] at h1 h2); (simp [h1, h2]; done)))); (case qjs => fail "mine sub"); (case qjt => fail "mine sub"))))) | fail) | ((with_reducible show wpAny _ _ (compareOp CmpOp.NotEq _ _) _ _ _); first | ((k_here; k_dflt ((refine ne_find (FindIn.at (reS (by assumption) (by assumption)) (by k_asm) (by fail "mine sub")) (FindIn.at (by assumption) (by k_asm) (by fail "mine sub")) (by ktr_units) ?_)))) | fail) | ((with_reducible show wpAny _ _ (compareOp CmpOp.NotEq (Value.ref _) (Value.ref _)) _ _ _); first | ((k_here; (with_reducible show wpAny _ _ (compareOp CmpOp.NotEq (Value.ref _) (Value.ref _)) _ _ _); k_dflt ((refine ne_finds (by k_asm) (by fail "mine mem2") (by fail "mine mem2") rfl rfl rfl rfl VT hf9 (by fail "mine sub") (by fail "mine sub") (by ktr_units) ?_)))) | fail) | ((with_reducible show wpAny _ _ (eval (Expr.Lambda _ _ _ _) _) _ _ _); first | ((k_here; k_dflt (((refine' kla_eval ?qd0 ?_; (case qd0 => exact rfl)); (refine' lam_come ?qF ?qN ?qT ?qC ?qcd (rem5 nT nD hdk9 n1 AA.2.2) TS ?qhq ?qcl ?_; (case qF => k_asm); (case qN => k_asm); (case qT => k_asm); (case qcd => exact rfl); (case qC => (rw [hPT]; kn_code)); (case qhq => first | exact rfl | decide +kernel); (case qcl => exact rfl)); (intro f9 c9 ctv9 pt9 ls h' tk' F9 N9 cK cP cN mf SR TS9; replace AA := up3L AA cN cP (by fail "mine mem2") (by fail "mine mem2"); replace aT := aT_up (o' := tabObj pt9) aT cN (by fail "mine mem2"); replace N9 := ins5 cK (rot5 N9); clear cK cP cN; replace TS := TS9); (try k_sweep); (try dsimp only); (try k_fold))))) | fail) | ((with_reducible show wpAny _ _ (call (Value.builtin "list.append") _) _ _ _); first | ((k_here; (with_reducible show wpAny _ _ (call (Value.builtin _) [Value.ref _, _]) _ _ _); k_dflt (((refine' append_K ?qk1 ?qk2 ?qk3 ?_ ?qz; (case qk1 => k_asm); (case qk2 => k_asm); (case qk3 => first | exact Upd.head (AllNe.all aT) | exact Upd.head (AllNe.all aD)); (case qz => exact Nat.le_of_ble_eq_true rfl); k_whole); intro h' F' N'; (try k_sweep))))) | fail) | ((with_reducible show wpAny _ _ (call (Value.builtin "len") _) _ _ _); first | ((k_here; (with_reducible show wpAny _ _ (call (Value.builtin "len") [Value.str _ _]) _ _ _); k_dflt (first | refine len_text b8 (by decide) ?_ | refine len_text b7 (by decide) ?_))) | fail) | ((with_reducible show wpAny _ _ (call (Value.type _) [Value.ref _]) _ _ _); first | ((k_here; (with_reducible show wpAny _ _ (call (Value.type _) [Value.ref _]) _ _ _); k_dflt (refine' list_ofLst ?qF ?qN ?qb ?qi ?ql ?qz ?_; (case qF => k_asm); (case qN => k_asm); (case qb => k_mem); (case qi => assumption); (case ql => assumption); (case qz => decide)); intro D' c' h' F' N' l1; (try k_lt l1); (try k_sweep))) | fail) | ((with_reducible show LCg.CompEnd _ _ _ _ _ _ _ _ _ _ _ _ _ _); first | ((k_here; k_dflt (refine keep_end (by k_asm) N' off' trivial (OrdR.step hi' hc' (by rfl))))) | ((k_here; k_dflt ((with_reducible rename LCg.Off3 _ _ _ _ => off9); refine one_push F9 N9 off9 trivial ?_))) | fail) | ((with_reducible show TxtSrc _ _ _ _ _ _ _ _ _ _ _ _ _ _); first | ((k_here; k_dflt (((rename News _ _ _ _ => lN'); (refine ⟨_, _, _, rfl, rfl, by k_asm, lN', by exact txt_size (by assumption) (by decide), fun g' => comp_ords (fun i' c' ys' u' I' oI' C' oC' D' m' h' tk' E' hc' hm' hi' hC' hx' F' N' off' ne' => ?_) (fun ys' hy' => ?_)⟩))))) | fail) | ((with_reducible show wpAny _ _ (call (Value.builtin "str.join") _) _ _ _); first | ((k_here; first | (k_dflt (refine' join_drawn ?qk1 hR7 ?qk2 ?_; (case qk1 => exact News.isList (by k_asm) (by k_mem)); (case qk2 => exact len_r (by assumption) (by assumption) (by decide))); intro _ _) | (k_dflt (refine' join_drawn ?qk1 hR8 ?qk2 ?_; (case qk1 => exact News.isList (by k_asm) (by k_mem)); (case qk2 => exact len_r (by assumption) (by assumption) (by decide))); intro _ _) | fail)) | fail) | ((with_reducible show DrawR _ _ _ _ _ _); first | (first | exact DrawR.step hR7 hl7 hk7 (item4 (by assumption) (by assumption)) | exact DrawR.step hR8 hl8 hk8 (item5 (by assumption) (by assumption)) | fail) | fail) | ((with_reducible show LCg.CompSrc _ _ _ _ _ _ _ _ _ _ _ _ _ _); first | ((k_here; first | (k_dflt ((with_reducible rename Drawn [97, 98, 65, 66] _ _ => hR8); ((rename News _ _ _ _ => lN'); (refine LCg.CompSrc.range (by rfl) (by k_asm) lN' (by assumption) (by exact small_r (by assumption) (by assumption) (by decide)) (by exact rangeSize_nat _ _) (by exact size_r (by assumption) (by decide)) ?_; intro g'; refine comp_one (DrawR dc (k8 + 1) [97, 98, 66]) DrawR.zero (fun i' ys' o' v' I' oI' C' oC' D' m' h' tk' E' hi' hR' hv' hC' hx' F' N' off' ne' => ?_) (fun ys' o' hR' => ?_)); (all_goals (obtain ⟨k7, tk7, n7, cs7, rfl, hk7, hR7, hl7⟩ := id hR')); (all_goals clear hR'); (all_goals (first | (have kb7 := KB.turn (KB.succ kb8) hk7 hi' (by assumption)) | (have kb7 := KB.fin (KB.succ kb8) hk7 (by assumption) (by assumption)))))); (all_goals (try k_fold))) | (k_dflt (((rename News _ _ _ _ => lN'); (refine LCg.CompSrc.range (by rfl) (by k_asm) lN' (by assumption) (by exact small_r (by assumption) (by assumption) (by decide)) (by exact rangeSize_nat _ _) (by exact size_r (by assumption) (by decide)) ?_; intro g'; refine comp_one (DrawR dc 1 [97, 98, 65, 66]) DrawR.zero (fun i' ys' o' v' I' oI' C' oC' D' m' h' tk' E' hi' hR' hv' hC' hx' F' N' off' ne' => ?_) (fun ys' o' hR' => ?_)); (all_goals (obtain ⟨k8, tk8, n8, cs8, rfl, hk8, hR8, hl8⟩ := id hR')); (all_goals clear hR'); (all_goals (first | (have kb8 := KB.turn KB.one hk8 hi' (by assumption)) | (have kb8 := KB.fin KB.one hk8 (by assumption) (by assumption)))))); (all_goals (try k_fold))) | fail)) | fail) | ((with_reducible show wpAny _ _ (call (Value.ref _) _) _ _ _); first | ((k_here; (first | (with_reducible show wpAny _ _ (call (Value.ref 795) _) _ _ _) | (with_reducible show wpAny _ _ (call (Value.ref 626) _) _ _ _)); k_dflt (refine' call_cls ?qk1 ?qk2 ?qk3 ?qk4 ?qk5 ?qk6 ?_; (case qk1 => k_asm); (case qk2 => k_asm); (case qk3 => k_asm); (case qk4 => k_is); (case qk5 => k_is); (case qk6 => k_is); k_whole; intro x' d' h' F' N' l1 l2; (try k_lt l1); (try k_lt2 l2); (try k_sweep); k_enter; ))) | ((k_here; (with_reducible show wpAny _ _ (call (Value.ref 672) _) _ _ _); k_dflt (((fail "fq"; refine' CtP.use (match_seg hR7 hiQ hy' b7 b8 ?qzs1 ?qzs2 _ _ _ _ _) ?qzB ?qzF ?qzX ?qzN ?qzT ?qzK1 ?qzK ?qzp ?qzd ?qzu ?_); ((((case qzB => k_asm); (case qzF => k_asm); (case qzX => k_asm); (case qzN => k_asm); (case qzT => k_asm); (case qzK1 => first | exact rfl | assumption); (case qzK => first | exact rfl | assumption)))); (case qzs1 => assumption); (case qzs2 => assumption); (case qzp => exact ⟨ints_at (by k_asm) (by fail "mine mem2") hiQ, ints_at (by k_asm) (by fail "mine mem2") hy'⟩); (case qzd => ktr_room); (case qzu => ktr_units); ((((intro cv ch ctk cS F9 N9 cl cL cP; obtain ⟨fs, cf, cK, cN⟩ := PF.come (by k_asm) (by k_asm) cP; clear cP cS cl cL; (replace AA := up3 AA cN (by fail "mine mem2") (by fail "mine mem2") (by fail "mine mem2")); (try (replace aD := AllNe.ins3 aD (cN (du, _) (by fail "mine mem2")))); (try (replace aT := AllNe.ins4 aT (cN (td, _) (by fail "mine mem2")))); (first | (replace N9 := ins8 cK N9) | (replace N9 := ins7 cK N9) | (replace N9 := ins6 cK N9) | (replace N9 := ins5 cK N9) | (replace N9 := ins4 cK N9) | (replace N9 := ins3 cK N9)); clear cK cN); (try k_sweep); (try dsimp only); (try k_fold)))))))) | ((k_here; (with_reducible show wpAny _ _ (call (Value.ref 679) _) _ _ _); k_dflt (((fail "fq"; refine' CtP.use (quote_seg SI hR7 b7 _) ?qzB ?qzF ?qzX ?qzN ?qzT ?qzK1 ?qzK ?qzp ?qzd ?qzu ?_); ((((case qzB => k_asm); (case qzF => k_asm); (case qzX => k_asm); (case qzN => k_asm); (case qzT => k_asm); (case qzK1 => first | exact rfl | assumption); (case qzK => first | exact rfl | assumption)))); (case qzp => exact SegP.use SI (by k_asm) (by fail "mine sub")); (case qzd => ktr_room); (case qzu => ktr_units); (intro cv ch ctk cS F9 N9 cl cL cP; obtain ⟨lQ, wsQ, nQ, cV, cQ, hiQ, cR⟩ := cP; obtain ⟨NS, dQ⟩ := fresh_onto (by k_asm) (by k_asm) N9 cQ cR; clear cl cL cS cQ cR N9; subst cV; (try k_sweep); (try dsimp only); (try k_fold)))))) | ((k_here; (with_reducible show wpAny _ _ (call (Value.ref 833) _) _ _ _); k_dflt (((fail "fq"; refine' CtP.use (law_moved_c _ _ o9 _ _) ?qzB ?qzF ?qzX ?qzN ?qzT ?qzK1 ?qzK ?qzp ?qzd ?qzu ?_); ((((case qzB => k_asm); (case qzF => k_asm); (case qzX => k_asm); (case qzN => k_asm); (case qzT => k_asm); (case qzK1 => first | exact rfl | assumption); (case qzK => first | exact rfl | assumption)))); (case qzp => exact FindIn.at hv9 (by k_asm) (by fail "mine sub")); (case qzd => ktr_room); (case qzu => ktr_units); (intro cv ch ctk cS F9 N9 cl cL cP; exact moved_end (by k_asm) F9 (by k_asm) N9 off9 cP ho9 hI9 (fun fs => src_at (by fail "mine mem2") fs)))))) | ((k_here; (with_reducible show wpAny _ _ (call (Value.ref 651) _) _ _ _); k_dflt (((fail "fq"; refine' CtP.use (searchB_seg SV SI _ _ _ _ _ _) ?qzB ?qzF ?qzX ?qzN ?qzT ?qzK1 ?qzK ?qzp ?qzd ?qzu ?_); ((((case qzB => k_asm); (case qzF => k_asm); (case qzX => k_asm); (case qzN => k_asm); (case qzT => k_asm); (case qzK1 => first | exact rfl | assumption); (case qzK => first | exact rfl | assumption)))); (case qzp => exact pre_lam hp (Fr.keep (by k_asm)) SV SI psl (by exact strongP h91 h92 b8 (by assumption) (by assumption)) (by exact strongB (by assumption) (by assumption))); (case qzd => ktr_room); (case qzu => ktr_units); (intro cv ch ctk cS F9 N9 cl cL cP; exact hret _ _ _ (Fr.keep F9) (PF.back (Fr.keep (by k_asm)) cP)))))) | ((k_here; (with_reducible show wpAny _ _ (call (Value.ref 644) _) _ _ _); k_dflt (((fail "fq"; refine' CtP.use (searchF_seg SV SI _ _ _ _ _ _) ?qzB ?qzF ?qzX ?qzN ?qzT ?qzK1 ?qzK ?qzp ?qzd ?qzu ?_); ((((case qzB => k_asm); (case qzF => k_asm); (case qzX => k_asm); (case qzN => k_asm); (case qzT => k_asm); (case qzK1 => first | exact rfl | assumption); (case qzK => first | exact rfl | assumption)))); (case qzp => exact pre_lam hp (Fr.keep (by k_asm)) SV SI psl (by exact strongP h91 h92 b8 (by assumption) (by assumption)) (by exact strongN b8 (by assumption) (by assumption))); (case qzd => ktr_room); (case qzu => ktr_units); (intro cv ch ctk cS F9 N9 cl cL cP; exact hret _ _ _ (Fr.keep F9) (PF.back (Fr.keep (by k_asm)) cP)))))) | ((k_here; (with_reducible show wpAny _ _ (call (Value.ref 651) _) _ _ _); k_dflt (((fail "fq"; refine' CtP.use (searchB_seg SV SI _ _ _ _ _ _) ?qzB ?qzF ?qzX ?qzN ?qzT ?qzK1 ?qzK ?qzp ?qzd ?qzu ?_); ((((case qzB => k_asm); (case qzF => k_asm); (case qzX => k_asm); (case qzN => k_asm); (case qzT => k_asm); (case qzK1 => first | exact rfl | assumption); (case qzK => first | exact rfl | assumption)))); (case qzp => exact pre_search SV SI (by k_asm) (by fail "mine sub") psl (by exact rng_ok (by assumption) (by assumption) (by decide) b8 (by assumption) (by assumption)) (by exact rng_ok (by assumption) (by assumption) (by decide) b8 (by assumption) (by assumption))); (case qzd => ktr_room); (case qzu => ktr_units); ((((intro cv ch ctk cS F9 N9 cl cL cP; obtain ⟨fs, cf, cK, cN⟩ := PF.come (by k_asm) (by k_asm) cP; clear cP cS cl cL; (replace AA := up3 AA cN (by fail "mine mem2") (by fail "mine mem2") (by fail "mine mem2")); (try (replace aD := AllNe.ins3 aD (cN (du, _) (by fail "mine mem2")))); (try (replace aT := AllNe.ins4 aT (cN (td, _) (by fail "mine mem2")))); (first | (replace N9 := ins8 cK N9) | (replace N9 := ins7 cK N9) | (replace N9 := ins6 cK N9) | (replace N9 := ins5 cK N9) | (replace N9 := ins4 cK N9) | (replace N9 := ins3 cK N9)); clear cK cN); (try k_sweep); (try dsimp only); (try k_fold)))))))) | ((k_here; (with_reducible show wpAny _ _ (call (Value.ref 644) _) _ _ _); k_dflt (((fail "fq"; refine' CtP.use (searchF_seg SV SI _ _ _ _ _ _) ?qzB ?qzF ?qzX ?qzN ?qzT ?qzK1 ?qzK ?qzp ?qzd ?qzu ?_); ((((case qzB => k_asm); (case qzF => k_asm); (case qzX => k_asm); (case qzN => k_asm); (case qzT => k_asm); (case qzK1 => first | exact rfl | assumption); (case qzK => first | exact rfl | assumption)))); (case qzp => exact pre_search SV SI (by k_asm) (by fail "mine sub") psl (by exact rng_ok (by assumption) (by assumption) (by decide) b8 (by assumption) (by assumption)) (by exact rng_ok (by assumption) (by assumption) (by decide) b8 (by assumption) (by assumption))); (case qzd => ktr_room); (case qzu => ktr_units); ((((intro cv ch ctk cS F9 N9 cl cL cP; obtain ⟨fs, cf, cK, cN⟩ := PF.come (by k_asm) (by k_asm) cP; clear cP cS cl cL; (replace AA := up3 AA cN (by fail "mine mem2") (by fail "mine mem2") (by fail "mine mem2")); (try (replace aD := AllNe.ins3 aD (cN (du, _) (by fail "mine mem2")))); (try (replace aT := AllNe.ins4 aT (cN (td, _) (by fail "mine mem2")))); (first | (replace N9 := ins8 cK N9) | (replace N9 := ins7 cK N9) | (replace N9 := ins6 cK N9) | (replace N9 := ins5 cK N9) | (replace N9 := ins4 cK N9) | (replace N9 := ins3 cK N9)); clear cK cN); (try k_sweep); (try dsimp only); (try k_fold)))))))) | ((k_here; (with_reducible show wpAny _ _ (call (Value.ref 828) _) _ _ _); k_dflt (((fail "fq"; refine' CtP.use (often_seg SS9 _ _ _ _ _ _ _ _ _ ?qzs1) ?qzB ?qzF ?qzX ?qzN ?qzT ?qzK1 ?qzK ?qzp ?qzd ?qzu ?_); ((((case qzB => k_asm); (case qzF => k_asm); (case qzX => k_asm); (case qzN => k_asm); (case qzT => k_asm); (case qzK1 => first | exact rfl | assumption); (case qzK => first | exact rfl | assumption)))); (case qzs1 => first | exact cnt_ok (by assumption) (by assumption) | exact cnt_ok' (by assumption) (by assumption)); (case qzp => exact ⟨SegP.use SS9 (by k_asm) (by fail "mine sub"), ssl⟩); (case qzd => ktr_room); (case qzu => ktr_units); ((((intro cv ch ctk cS F9 N9 cl cL cP; obtain ⟨fs, cf, cK, cN⟩ := PF.come (by k_asm) (by k_asm) cP; clear cP cS cl cL; (replace AA := up3 AA cN (by fail "mine mem2") (by fail "mine mem2") (by fail "mine mem2")); (try (replace aD := AllNe.ins3 aD (cN (du, _) (by fail "mine mem2")))); (try (replace aT := AllNe.ins4 aT (cN (td, _) (by fail "mine mem2")))); (first | (replace N9 := ins8 cK N9) | (replace N9 := ins7 cK N9) | (replace N9 := ins6 cK N9) | (replace N9 := ins5 cK N9) | (replace N9 := ins4 cK N9) | (replace N9 := ins3 cK N9)); clear cK cN); (try k_sweep); (try dsimp only); (try k_fold)))))))) | ((k_here; (with_reducible show wpAny _ _ (call (Value.ref 821) _) _ _ _); k_dflt (((fail "fq"; refine' CtP.use (back_seg SS9 _ _ _ _ _ _ _) ?qzB ?qzF ?qzX ?qzN ?qzT ?qzK1 ?qzK ?qzp ?qzd ?qzu ?_); ((((case qzB => k_asm); (case qzF => k_asm); (case qzX => k_asm); (case qzN => k_asm); (case qzT => k_asm); (case qzK1 => first | exact rfl | assumption); (case qzK => first | exact rfl | assumption)))); (case qzp => exact ⟨SegP.use SS9 (by k_asm) (by fail "mine sub"), ssl⟩); (case qzd => ktr_room); (case qzu => ktr_units); ((((intro cv ch ctk cS F9 N9 cl cL cP; obtain ⟨fs, cf, cK, cN⟩ := PF.come (by k_asm) (by k_asm) cP; clear cP cS cl cL; (replace AA := up3 AA cN (by fail "mine mem2") (by fail "mine mem2") (by fail "mine mem2")); (try (replace aD := AllNe.ins3 aD (cN (du, _) (by fail "mine mem2")))); (try (replace aT := AllNe.ins4 aT (cN (td, _) (by fail "mine mem2")))); (first | (replace N9 := ins8 cK N9) | (replace N9 := ins7 cK N9) | (replace N9 := ins6 cK N9) | (replace N9 := ins5 cK N9) | (replace N9 := ins4 cK N9) | (replace N9 := ins3 cK N9)); clear cK cN); (try k_sweep); (try dsimp only); (try k_fold)))))))) | ((k_here; (with_reducible show wpAny _ _ (call (Value.ref 816) _) _ _ _); k_dflt (((fail "fq"; refine' CtP.use (ahead_seg SS9 _ _ _ _ _ _ _) ?qzB ?qzF ?qzX ?qzN ?qzT ?qzK1 ?qzK ?qzp ?qzd ?qzu ?_); ((((case qzB => k_asm); (case qzF => k_asm); (case qzX => k_asm); (case qzN => k_asm); (case qzT => k_asm); (case qzK1 => first | exact rfl | assumption); (case qzK => first | exact rfl | assumption)))); (case qzp => exact ⟨SegP.use SS9 (by k_asm) (by fail "mine sub"), ssl⟩); (case qzd => ktr_room); (case qzu => ktr_units); ((((intro cv ch ctk cS F9 N9 cl cL cP; obtain ⟨fs, cf, cK, cN⟩ := PF.come (by k_asm) (by k_asm) cP; clear cP cS cl cL; (replace AA := up3 AA cN (by fail "mine mem2") (by fail "mine mem2") (by fail "mine mem2")); (try (replace aD := AllNe.ins3 aD (cN (du, _) (by fail "mine mem2")))); (try (replace aT := AllNe.ins4 aT (cN (td, _) (by fail "mine mem2")))); (first | (replace N9 := ins8 cK N9) | (replace N9 := ins7 cK N9) | (replace N9 := ins6 cK N9) | (replace N9 := ins5 cK N9) | (replace N9 := ins4 cK N9) | (replace N9 := ins3 cK N9)); clear cK cN); (try k_sweep); (try dsimp only); (try k_fold)))))))) | ((k_here; (with_reducible show wpAny _ _ (call (Value.ref 806) _) _ _ _); k_dflt (((fail "fq"; refine' CtM.useR (draw_seg SD _ dk _ _ _ _ _ (KB.ok kbT ?qzs2) ?qzs3) ?qzB ?qzF ?qzX ?qzN ?qzT ?qzK1 ?qzK (Rems.cons (Rem.head (AllNe.all A0)) Rems.nil) ?qzp ?qzd ?qzu ?_); (case qzB => (k_asm)); (case qzF => (k_asm)); (case qzX => (k_asm)); (case qzN => (first | k_asm | exact drop1 (by k_asm))); (case qzT => (k_asm)); (case qzK1 => (first | exact rfl | assumption)); (case qzK => (first | exact rfl | assumption)); (case qzs2 => decide); (case qzs3 => first | exact ⟨by decide, by decide⟩ | exact many_ok' b8 (by decide) (by decide)); (case qzp => (intro g2 G2 S2; have z9 := SegP.onG SD (by k_asm) (by first | fail "mine sub" | fail) A1 G2; exact ⟨z9, len40⟩)); (case qzd => (ktr_room)); (case qzu => (ktr_units)); (intro cv ch ctk cG F9 N9 cO cP; obtain ⟨r9, t9, tk9, n9, cV, r91, r92, cD⟩ := cP; replace N9 := news_put N9 cD (cO _ (List.Mem.head _)); replace kbT := KB.succ kbT; clear cG cO cD; subst cV; (try k_sweep); (try dsimp only); (try k_fold)))))) | ((k_here; (with_reducible show wpAny _ _ (call (Value.ref 811) _) _ _ _); k_dflt (((fail "fq"; refine' CtP.use (stands_c _ _ _ _ _ _ (str_len b8) (str_len b7)) ?qzB ?qzF ?qzX ?qzN ?qzT ?qzK1 ?qzK trivial ?qzd ?qzu ?_); (case qzB => k_asm); (case qzF => k_asm); (case qzX => k_asm); (case qzN => k_asm); (case qzT => k_asm); (case qzK1 => first | exact rfl | assumption); (case qzK => first | exact rfl | assumption); (case qzd => ktr_room); (case qzu => ktr_units); (intro cv ch ctk cS F9 N9 cl cL cP; obtain ⟨lS, wsS, nS, cV, cQ, hiS, cR⟩ := cP; obtain ⟨NS, dS⟩ := fresh_onto (by k_asm) (by k_asm) N9 cQ cR; clear cl cL cS cQ cR N9; subst cV; (try k_sweep); (try dsimp only); (try k_fold)))))) | ((k_here; (with_reducible show wpAny _ _ (call (Value.ref 806) _) _ _ _); k_dflt (((fail "fq"; refine' CtM.useR (draw_c _ _ _ _ _ _ _ _ _ (KB.ok ?qzs1 ?qzs2) ⟨?qzs3, ?qzs4⟩) ?qzB ?qzF ?qzX ?qzN ?qzT ?qzK1 ?qzK ?qzR ?qzp ?qzd ?qzu ?_); (case qzB => (k_asm)); (case qzF => (k_asm)); (case qzX => (k_asm)); (case qzN => (k_asm)); (case qzT => (k_asm)); (case qzK1 => (first | exact rfl | assumption)); (case qzK => (first | exact rfl | assumption)); (case qzR => (fail "mine rems")); (case qzs1 => (fail "mine kb")); (case qzs2 => decide); (case qzs3 => first | decide | omega); (case qzs4 => first | decide | omega); (case qzp => (intro g2 G2 S2; exact ⟨⟨_, ⟨_, G2 _ _ (News.get (by k_asm) (by k_mem)) (by simp; k_ne), rfl, _, rfl⟩, by assumption⟩, len40⟩)); (case qzd => (ktr_room)); (case qzu => (ktr_units)); (intro cv ch ctk cG F9 N9 cO cP; obtain ⟨r9, t9, tk9, n9, cV, r91, r92, cD⟩ := cP; replace N9 := news_put N9 cD (cO _ (List.Mem.head _)); clear cG cO cD; subst cV; (try k_sweep); (try dsimp only); (try k_fold)); )))) | fail) | ((with_reducible show wpAny _ _ (pyIter (Value.ref _)) _ _ _); k_dflt ((((rename News _ _ _ _ => N6); refine' range_T (σ := LS) 4 [Str.ofString "place", Str.ofString "count", Str.ofString "high", Str.ofString "low", Str.ofString "due", Str.ofString "told_own", Str.ofString "found"] (fun st => (dk, W.listOf #[.ref dc, .int st.k st.tk] st.n) :: (PT, tabObj st.ps) :: st.tl) (fun i st => KB st.k (18 + 4 * (i : Int)) ∧ LoopI dk PT _ _ _ dc _ _ _ _ _ _ (Str.ofString "law.<locals>.<lambda>") st.ps st.tl) ⟨_, _, _, _, _⟩ rfl (by assumption) (by decide) rfl (by assumption) N6 ⟨kbL, LI⟩ (fun i9 t9 u9 st9 h9 tk9 I9 oI9 hi9 hP9 off9 F9 N9 => ?_) (fun u9 st9 h9 tk9 hP9 F9 N9 => ?_); rotate_left; (subst hPT); rotate_right)))) | walk1 | (k_end; wrow_close) | (dsimp only; walk1) | (leave1; try dsimp only) | (dsimp only) | fail "no step"))
    (rename News _ _ _ _ => N3)
    (obtain ⟨N4, dA4⟩ := tidy1 N3 dA rfl)
    clear N3 dA
    have b8 : cs8.length ≤ 9 := le_r hl8 (by assumption) (by decide)
    have b7 : cs7.length ≤ 3 := le_r hl7 (by assumption) (by decide)
    clear hl7 hl8 hk7 hk8 kb8
    have dC := off1_allne (D := dc) (by with_reducible assumption)
    (repeat ((with_reducible rename LCg.Off1 _ _ => z9); clear z9))
    (repeat ((with_reducible rename IsRange _ _ _ _ _ _ _ _ => z9); clear z9))
    (repeat' ((fail_if_success (with_reducible show wpAny _ _ (exec (Stmt.For _ _ _ _ ⟨703, _, _, _⟩) _) _ _ _)); first | fail "unf" | ((with_reducible show GoodW _ _ _ _ _ _ _); first | ((k_dflt (refine' goodW_bool ?qzg1 ?qzg2 ?qzg3 ?qzg4 ?qzg5; (case qzg1 => k_asm); (case qzg2 => k_asm); (case qzg3 => (intro _; kernel_rfl!)); (case qzg4 => kernel_rfl!); (case qzg5 => first | rfl | kernel_rfl!); ))) | fail) | ((with_reducible show wpAny _ _ (eval (Expr.Name _ _) _) _ _ _); first | ((k_here; first | ((with_reducible show wpAny _ _ (eval (Expr.Name _ _) (compEnvC _ _ _ _)) _ _ _); k_dflt (first | (refine' kcf_cell ?qzN ?qzc ?qzm ?qzd ?_ ?qza ?qzb; (case qza => rfl); (case qzb => rfl); (case qzN => k_asm); (case qzc => rfl); (case qzm => fail "mine mem2"); (case qzd => k_asm); k_whole) | (refine' LCgL.ld_own ?qza ?qzb ?qzc ?qzd ?_; (case qza => k_asm); (case qzb => k_mem); (case qzc => assumption); (case qzd => assumption); k_whole) | (refine' LCgL.ld_global ?qza ?qzb ?qzc ?qzd ?_; (case qza => k_asm); (case qzb => k_asm); (case qzc => k_asm); (case qzd => k_is); k_whole) | (refine' LCgL.ld_built ?qza ?qzb ?qzc ?qzd ?qze ?qzf ?_; (case qza => k_asm); (case qzb => k_asm); (case qzc => k_asm); (case qzd => k_is); (case qze => boot_by_name); (case qzf => decide); k_whole))) | k_dflt (first | (refine' name_L ?qzF ?qzv ?qzo ?_; (case qzo => decide +kernel); (case qzF => k_asm); (case qzv => rfl); k_whole) | (refine' name_G ?qzF ?qzX ?qzT ?qze ?qzo ?_; (case qzo => decide +kernel); (case qzF => k_asm); (case qzX => k_asm); (case qzT => k_asm); (case qze => k_is); k_whole) | (refine' name_C ?qzN ?qzc ?qzm ?qzd ?qzo ?_; (case qzo => decide +kernel); (case qzN => k_asm); (case qzc => rfl); (case qzm => fail "mine mem2"); (case qzd => k_asm); k_whole) | (refine' name_I ?qzF ?qzX ?qzT ?qze ?qzv ?qzn ?qzo ?_; (case qzo => decide +kernel); (case qzF => k_asm); (case qzX => k_asm); (case qzT => k_asm); (case qze => k_is); (case qzv => boot_fast); (case qzn => decide); k_whole)))) | ((k_here; (with_reducible show wpAny _ _ (eval (Expr.Name _ _) (compEnvC _ _ _ _)) _ _ _); k_dflt (refine' kcf_cell ?qN ?qc ?qm ?qd ?_ ?qa ?qb; (case qa => rfl); (case qb => rfl); (case qN => k_asm); (case qc => rfl); (case qm => fail "mine mem2"); (case qd => k_asm); k_whole))) | ((k_here; k_dflt (refine' nameX_G ?qF ?qc ?qg ?qd ?_ ?qa ?qb; (case qa => rfl); (case qb => rfl); (case qF => k_asm); (case qc => rfl); (case qg => first | exact g6 | exact g5 | exact g4 | exact g3 | exact g2 | exact g1); (case qd => k_asm); k_whole))) | ((k_here; k_dflt (refine' nameX_C ?qN ?qc ?qm ?qd ?_ ?qa ?qb; (case qa => rfl); (case qb => rfl); (case qN => k_asm); (case qc => rfl); (case qm => fail "mine mem2"); (case qd => k_asm); k_whole))) | fail) | ((with_reducible show wpAny _ _ (callWith _ (Value.ref _) _ _ _) _ _ _); first | ((k_here; k_dflt (first | (refine' callWith_K ?qk1 ?qk2 ?_; (case qk1 => k_asm); (case qk2 => k_is); k_whole) | (refine' callWith_K0F ?qk0 ?qk1 ?qk2 ?_; (case qk0 => k_asm); (case qk1 => k_asm); (case qk2 => k_is); k_whole) | (refine' callWith_KW ?qk1 ?qk2 ?qk3 ?_; (case qk1 => k_asm); (case qk2 => k_is); (case qk3 => exact rfl); k_whole) | (refine' callWith_KW0 ?qk1 ?qk2 ?qk3 ?_; (case qk1 => k_asm); (case qk2 => k_is); (case qk3 => exact rfl); k_whole)))) | ((k_here; k_dflt (refine' callWith_K ?qk1 ?qk2 ?_; (case qk1 => k_asm); (case qk2 => k_is); k_whole))) | fail) | ((with_reducible show EndX _ _ _ _ _ _ _); first | ((k_dflt ((refine' jt_out ?qjF ?qjN AA n1 n2 ?qjm ⟨KB.four hkb, LoopI.up hLI ?qjs AA.1 AA.2.2 (TabSt.up TS ?qjt)⟩; (case qjF => k_asm); (case qjN => first | k_asm | exact drop1 (by k_asm) | exact drop1 (drop1 (by k_asm)) | exact drop1 (drop1 (drop1 (by k_asm))) | exact drop1 (drop1 (drop1 (drop1 (by k_asm)))) | exact drop1 (drop1 (drop1 (drop1 (drop1 (by k_asm)))))); (case qjm => ((intro z h1 h2; (try dsimp +zetaDelta only); (simp only [List.contains_cons, List.contains_nil, Bool.or_false, Bool.or_eq_false_iff, beq_eq_false_iff_ne, ne_eq] at h1 h2); (simp [h1, h2]; done)))); (case qjs => fail "mine sub"); (case qjt => fail "mine sub"))))) | fail) | ((with_reducible show wpAny _ _ (compareOp CmpOp.NotEq _ _) _ _ _); first | ((k_here; k_dflt ((refine ne_find (FindIn.at (reS (by assumption) (by assumption)) (by k_asm) (by fail "mine sub")) (FindIn.at (by assumption) (by k_asm) (by fail "mine sub")) (by ktr_units) ?_)))) | fail) | ((with_reducible show wpAny _ _ (compareOp CmpOp.NotEq (Value.ref _) (Value.ref _)) _ _ _); first | ((k_here; (with_reducible show wpAny _ _ (compareOp CmpOp.NotEq (Value.ref _) (Value.ref _)) _ _ _); k_dflt ((refine ne_finds (by k_asm) (by fail "mine mem2") (by fail "mine mem2") rfl rfl rfl rfl VT hf9 (by fail "mine sub") (by fail "mine sub") (by ktr_units) ?_)))) | fail) | ((with_reducible show wpAny _ _ (eval (Expr.Lambda _ _ _ _) _) _ _ _); first | ((k_here; k_dflt (((refine' kla_eval ?qd0 ?_; (case qd0 => exact rfl)); (refine' lam_come ?qF ?qN ?qT ?qC ?qcd (rem5 nT nD hdk9 n1 AA.2.2) TS ?qhq ?qcl ?_; (case qF => k_asm); (case qN => k_asm); (case qT => k_asm); (case qcd => exact rfl); (case qC => (rw [hPT]; kn_code)); (case qhq => first | exact rfl | decide +kernel); (case qcl => exact rfl)); (intro f9 c9 ctv9 pt9 ls h' tk' F9 N9 cK cP cN mf SR TS9; replace AA := up3L AA cN cP (by fail "mine mem2") (by fail "mine mem2"); replace aT := aT_up (o' := tabObj pt9) aT cN (by fail "mine mem2"); replace N9 := ins5 cK (rot5 N9); clear cK cP cN; replace TS := TS9); (try k_sweep); (try dsimp only); (try k_fold))))) | fail) | ((with_reducible show wpAny _ _ (call (Value.builtin "list.append") _) _ _ _); first | ((k_here; (with_reducible show wpAny _ _ (call (Value.builtin _) [Value.ref _, _]) _ _ _); k_dflt (((refine' append_K ?qk1 ?qk2 ?qk3 ?_ ?qz; (case qk1 => k_asm); (case qk2 => k_asm); (case qk3 => first | exact Upd.head (AllNe.all aT) | exact Upd.head (AllNe.all aD)); (case qz => exact Nat.le_of_ble_eq_true rfl); k_whole); intro h' F' N'; (try k_sweep))))) | fail) | ((with_reducible show wpAny _ _ (call (Value.builtin "len") _) _ _ _); first | ((k_here; (with_reducible show wpAny _ _ (call (Value.builtin "len") [Value.str _ _]) _ _ _); k_dflt (first | refine len_text b8 (by decide) ?_ | refine len_text b7 (by decide) ?_))) | fail) | ((with_reducible show wpAny _ _ (call (Value.type _) [Value.ref _]) _ _ _); first | ((k_here; (with_reducible show wpAny _ _ (call (Value.type _) [Value.ref _]) _ _ _); k_dflt (refine' list_ofLst ?qF ?qN ?qb ?qi ?ql ?qz ?_; (case qF => k_asm); (case qN => k_asm); (case qb => k_mem); (case qi => assumption); (case ql => assumption); (case qz => decide)); intro D' c' h' F' N' l1; (try k_lt l1); (try k_sweep))) | fail) | ((with_reducible show LCg.CompEnd _ _ _ _ _ _ _ _ _ _ _ _ _ _); first | ((k_here; k_dflt (refine keep_end (by k_asm) N' off' trivial (OrdR.step hi' hc' (by rfl))))) | ((k_here; k_dflt ((with_reducible rename LCg.Off3 _ _ _ _ => off9); refine one_push F9 N9 off9 trivial ?_))) | fail) | ((with_reducible show TxtSrc _ _ _ _ _ _ _ _ _ _ _ _ _ _); first | ((k_here; k_dflt (((rename News _ _ _ _ => lN'); (refine ⟨_, _, _, rfl, rfl, by k_asm, lN', by exact txt_size (by assumption) (by decide), fun g' => comp_ords (fun i' c' ys' u' I' oI' C' oC' D' m' h' tk' E' hc' hm' hi' hC' hx' F' N' off' ne' => ?_) (fun ys' hy' => ?_)⟩))))) | fail) | ((with_reducible show wpAny _ _ (call (Value.builtin "str.join") _) _ _ _); first | ((k_here; first | (k_dflt (refine' join_drawn ?qk1 hR7 ?qk2 ?_; (case qk1 => exact News.isList (by k_asm) (by k_mem)); (case qk2 => exact len_r (by assumption) (by assumption) (by decide))); intro _ _) | (k_dflt (refine' join_drawn ?qk1 hR8 ?qk2 ?_; (case qk1 => exact News.isList (by k_asm) (by k_mem)); (case qk2 => exact len_r (by assumption) (by assumption) (by decide))); intro _ _) | fail)) | fail) | ((with_reducible show DrawR _ _ _ _ _ _); first | (first | exact DrawR.step hR7 hl7 hk7 (item4 (by assumption) (by assumption)) | exact DrawR.step hR8 hl8 hk8 (item5 (by assumption) (by assumption)) | fail) | fail) | ((with_reducible show LCg.CompSrc _ _ _ _ _ _ _ _ _ _ _ _ _ _); first | ((k_here; first | (k_dflt ((with_reducible rename Drawn [97, 98, 65, 66] _ _ => hR8); ((rename News _ _ _ _ => lN'); (refine LCg.CompSrc.range (by rfl) (by k_asm) lN' (by assumption) (by exact small_r (by assumption) (by assumption) (by decide)) (by exact rangeSize_nat _ _) (by exact size_r (by assumption) (by decide)) ?_; intro g'; refine comp_one (DrawR dc (k8 + 1) [97, 98, 66]) DrawR.zero (fun i' ys' o' v' I' oI' C' oC' D' m' h' tk' E' hi' hR' hv' hC' hx' F' N' off' ne' => ?_) (fun ys' o' hR' => ?_)); (all_goals (obtain ⟨k7, tk7, n7, cs7, rfl, hk7, hR7, hl7⟩ := id hR')); (all_goals clear hR'); (all_goals (first | (have kb7 := KB.turn (KB.succ kb8) hk7 hi' (by assumption)) | (have kb7 := KB.fin (KB.succ kb8) hk7 (by assumption) (by assumption)))))); (all_goals (try k_fold))) | (k_dflt (((rename News _ _ _ _ => lN'); (refine LCg.CompSrc.range (by rfl) (by k_asm) lN' (by assumption) (by exact small_r (by assumption) (by assumption) (by decide)) (by exact rangeSize_nat _ _) (by exact size_r (by assumption) (by decide)) ?_; intro g'; refine comp_one (DrawR dc 1 [97, 98, 65, 66]) DrawR.zero (fun i' ys' o' v' I' oI' C' oC' D' m' h' tk' E' hi' hR' hv' hC' hx' F' N' off' ne' => ?_) (fun ys' o' hR' => ?_)); (all_goals (obtain ⟨k8, tk8, n8, cs8, rfl, hk8, hR8, hl8⟩ := id hR')); (all_goals clear hR'); (all_goals (first | (have kb8 := KB.turn KB.one hk8 hi' (by assumption)) | (have kb8 := KB.fin KB.one hk8 (by assumption) (by assumption)))))); (all_goals (try k_fold))) | fail)) | fail) | ((with_reducible show wpAny _ _ (call (Value.ref _) _) _ _ _); first | ((k_here; (first | (with_reducible show wpAny _ _ (call (Value.ref 795) _) _ _ _) | (with_reducible show wpAny _ _ (call (Value.ref 626) _) _ _ _)); k_dflt (refine' call_cls ?qk1 ?qk2 ?qk3 ?qk4 ?qk5 ?qk6 ?_; (case qk1 => k_asm); (case qk2 => k_asm); (case qk3 => k_asm); (case qk4 => k_is); (case qk5 => k_is); (case qk6 => k_is); k_whole; intro x' d' h' F' N' l1 l2; (try k_lt l1); (try k_lt2 l2); (try k_sweep); k_enter; ))) | ((k_here; (with_reducible show wpAny _ _ (call (Value.ref 672) _) _ _ _); k_dflt (((fail "fq"; refine' CtP.use (match_seg hR7 hiQ hy' b7 b8 ?qzs1 ?qzs2 _ _ _ _ _) ?qzB ?qzF ?qzX ?qzN ?qzT ?qzK1 ?qzK ?qzp ?qzd ?qzu ?_); ((((case qzB => k_asm); (case qzF => k_asm); (case qzX => k_asm); (case qzN => k_asm); (case qzT => k_asm); (case qzK1 => first | exact rfl | assumption); (case qzK => first | exact rfl | assumption)))); (case qzs1 => assumption); (case qzs2 => assumption); (case qzp => exact ⟨ints_at (by k_asm) (by fail "mine mem2") hiQ, ints_at (by k_asm) (by fail "mine mem2") hy'⟩); (case qzd => ktr_room); (case qzu => ktr_units); ((((intro cv ch ctk cS F9 N9 cl cL cP; obtain ⟨fs, cf, cK, cN⟩ := PF.come (by k_asm) (by k_asm) cP; clear cP cS cl cL; (replace AA := up3 AA cN (by fail "mine mem2") (by fail "mine mem2") (by fail "mine mem2")); (try (replace aD := AllNe.ins3 aD (cN (du, _) (by fail "mine mem2")))); (try (replace aT := AllNe.ins4 aT (cN (td, _) (by fail "mine mem2")))); (first | (replace N9 := ins8 cK N9) | (replace N9 := ins7 cK N9) | (replace N9 := ins6 cK N9) | (replace N9 := ins5 cK N9) | (replace N9 := ins4 cK N9) | (replace N9 := ins3 cK N9)); clear cK cN); (try k_sweep); (try dsimp only); (try k_fold)))))))) | ((k_here; (with_reducible show wpAny _ _ (call (Value.ref 679) _) _ _ _); k_dflt (((fail "fq"; refine' CtP.use (quote_seg SI hR7 b7 _) ?qzB ?qzF ?qzX ?qzN ?qzT ?qzK1 ?qzK ?qzp ?qzd ?qzu ?_); ((((case qzB => k_asm); (case qzF => k_asm); (case qzX => k_asm); (case qzN => k_asm); (case qzT => k_asm); (case qzK1 => first | exact rfl | assumption); (case qzK => first | exact rfl | assumption)))); (case qzp => exact SegP.use SI (by k_asm) (by fail "mine sub")); (case qzd => ktr_room); (case qzu => ktr_units); (intro cv ch ctk cS F9 N9 cl cL cP; obtain ⟨lQ, wsQ, nQ, cV, cQ, hiQ, cR⟩ := cP; obtain ⟨NS, dQ⟩ := fresh_onto (by k_asm) (by k_asm) N9 cQ cR; clear cl cL cS cQ cR N9; subst cV; (try k_sweep); (try dsimp only); (try k_fold)))))) | ((k_here; (with_reducible show wpAny _ _ (call (Value.ref 833) _) _ _ _); k_dflt (((fail "fq"; refine' CtP.use (law_moved_c _ _ o9 _ _) ?qzB ?qzF ?qzX ?qzN ?qzT ?qzK1 ?qzK ?qzp ?qzd ?qzu ?_); ((((case qzB => k_asm); (case qzF => k_asm); (case qzX => k_asm); (case qzN => k_asm); (case qzT => k_asm); (case qzK1 => first | exact rfl | assumption); (case qzK => first | exact rfl | assumption)))); (case qzp => exact FindIn.at hv9 (by k_asm) (by fail "mine sub")); (case qzd => ktr_room); (case qzu => ktr_units); (intro cv ch ctk cS F9 N9 cl cL cP; exact moved_end (by k_asm) F9 (by k_asm) N9 off9 cP ho9 hI9 (fun fs => src_at (by fail "mine mem2") fs)))))) | ((k_here; (with_reducible show wpAny _ _ (call (Value.ref 651) _) _ _ _); k_dflt (((fail "fq"; refine' CtP.use (searchB_seg SV SI _ _ _ _ _ _) ?qzB ?qzF ?qzX ?qzN ?qzT ?qzK1 ?qzK ?qzp ?qzd ?qzu ?_); ((((case qzB => k_asm); (case qzF => k_asm); (case qzX => k_asm); (case qzN => k_asm); (case qzT => k_asm); (case qzK1 => first | exact rfl | assumption); (case qzK => first | exact rfl | assumption)))); (case qzp => exact pre_lam hp (Fr.keep (by k_asm)) SV SI psl (by exact strongP h91 h92 b8 (by assumption) (by assumption)) (by exact strongB (by assumption) (by assumption))); (case qzd => ktr_room); (case qzu => ktr_units); (intro cv ch ctk cS F9 N9 cl cL cP; exact hret _ _ _ (Fr.keep F9) (PF.back (Fr.keep (by k_asm)) cP)))))) | ((k_here; (with_reducible show wpAny _ _ (call (Value.ref 644) _) _ _ _); k_dflt (((fail "fq"; refine' CtP.use (searchF_seg SV SI _ _ _ _ _ _) ?qzB ?qzF ?qzX ?qzN ?qzT ?qzK1 ?qzK ?qzp ?qzd ?qzu ?_); ((((case qzB => k_asm); (case qzF => k_asm); (case qzX => k_asm); (case qzN => k_asm); (case qzT => k_asm); (case qzK1 => first | exact rfl | assumption); (case qzK => first | exact rfl | assumption)))); (case qzp => exact pre_lam hp (Fr.keep (by k_asm)) SV SI psl (by exact strongP h91 h92 b8 (by assumption) (by assumption)) (by exact strongN b8 (by assumption) (by assumption))); (case qzd => ktr_room); (case qzu => ktr_units); (intro cv ch ctk cS F9 N9 cl cL cP; exact hret _ _ _ (Fr.keep F9) (PF.back (Fr.keep (by k_asm)) cP)))))) | ((k_here; (with_reducible show wpAny _ _ (call (Value.ref 651) _) _ _ _); k_dflt (((fail "fq"; refine' CtP.use (searchB_seg SV SI _ _ _ _ _ _) ?qzB ?qzF ?qzX ?qzN ?qzT ?qzK1 ?qzK ?qzp ?qzd ?qzu ?_); ((((case qzB => k_asm); (case qzF => k_asm); (case qzX => k_asm); (case qzN => k_asm); (case qzT => k_asm); (case qzK1 => first | exact rfl | assumption); (case qzK => first | exact rfl | assumption)))); (case qzp => exact pre_search SV SI (by k_asm) (by fail "mine sub") psl (by exact rng_ok (by assumption) (by assumption) (by decide) b8 (by assumption) (by assumption)) (by exact rng_ok (by assumption) (by assumption) (by decide) b8 (by assumption) (by assumption))); (case qzd => ktr_room); (case qzu => ktr_units); ((((intro cv ch ctk cS F9 N9 cl cL cP; obtain ⟨fs, cf, cK, cN⟩ := PF.come (by k_asm) (by k_asm) cP; clear cP cS cl cL; (replace AA := up3 AA cN (by fail "mine mem2") (by fail "mine mem2") (by fail "mine mem2")); (try (replace aD := AllNe.ins3 aD (cN (du, _) (by fail "mine mem2")))); (try (replace aT := AllNe.ins4 aT (cN (td, _) (by fail "mine mem2")))); (first | (replace N9 := ins8 cK N9) | (replace N9 := ins7 cK N9) | (replace N9 := ins6 cK N9) | (replace N9 := ins5 cK N9) | (replace N9 := ins4 cK N9) | (replace N9 := ins3 cK N9)); clear cK cN); (try k_sweep); (try dsimp only); (try k_fold)))))))) | ((k_here; (with_reducible show wpAny _ _ (call (Value.ref 644) _) _ _ _); k_dflt (((fail "fq"; refine' CtP.use (searchF_seg SV SI _ _ _ _ _ _) ?qzB ?qzF ?qzX ?qzN ?qzT ?qzK1 ?qzK ?qzp ?qzd ?qzu ?_); ((((case qzB => k_asm); (case qzF => k_asm); (case qzX => k_asm); (case qzN => k_asm); (case qzT => k_asm); (case qzK1 => first | exact rfl | assumption); (case qzK => first | exact rfl | assumption)))); (case qzp => exact pre_search SV SI (by k_asm) (by fail "mine sub") psl (by exact rng_ok (by assumption) (by assumption) (by decide) b8 (by assumption) (by assumption)) (by exact rng_ok (by assumption) (by assumption) (by decide) b8 (by assumption) (by assumption))); (case qzd => ktr_room); (case qzu => ktr_units); ((((intro cv ch ctk cS F9 N9 cl cL cP; obtain ⟨fs, cf, cK, cN⟩ := PF.come (by k_asm) (by k_asm) cP; clear cP cS cl cL; (replace AA := up3 AA cN (by fail "mine mem2") (by fail "mine mem2") (by fail "mine mem2")); (try (replace aD := AllNe.ins3 aD (cN (du, _) (by fail "mine mem2")))); (try (replace aT := AllNe.ins4 aT (cN (td, _) (by fail "mine mem2")))); (first | (replace N9 := ins8 cK N9) | (replace N9 := ins7 cK N9) | (replace N9 := ins6 cK N9) | (replace N9 := ins5 cK N9) | (replace N9 := ins4 cK N9) | (replace N9 := ins3 cK N9)); clear cK cN); (try k_sweep); (try dsimp only); (try k_fold)))))))) | ((k_here; (with_reducible show wpAny _ _ (call (Value.ref 828) _) _ _ _); k_dflt (((fail "fq"; refine' CtP.use (often_seg SS9 _ _ _ _ _ _ _ _ _ ?qzs1) ?qzB ?qzF ?qzX ?qzN ?qzT ?qzK1 ?qzK ?qzp ?qzd ?qzu ?_); ((((case qzB => k_asm); (case qzF => k_asm); (case qzX => k_asm); (case qzN => k_asm); (case qzT => k_asm); (case qzK1 => first | exact rfl | assumption); (case qzK => first | exact rfl | assumption)))); (case qzs1 => first | exact cnt_ok (by assumption) (by assumption) | exact cnt_ok' (by assumption) (by assumption)); (case qzp => exact ⟨SegP.use SS9 (by k_asm) (by fail "mine sub"), ssl⟩); (case qzd => ktr_room); (case qzu => ktr_units); ((((intro cv ch ctk cS F9 N9 cl cL cP; obtain ⟨fs, cf, cK, cN⟩ := PF.come (by k_asm) (by k_asm) cP; clear cP cS cl cL; (replace AA := up3 AA cN (by fail "mine mem2") (by fail "mine mem2") (by fail "mine mem2")); (try (replace aD := AllNe.ins3 aD (cN (du, _) (by fail "mine mem2")))); (try (replace aT := AllNe.ins4 aT (cN (td, _) (by fail "mine mem2")))); (first | (replace N9 := ins8 cK N9) | (replace N9 := ins7 cK N9) | (replace N9 := ins6 cK N9) | (replace N9 := ins5 cK N9) | (replace N9 := ins4 cK N9) | (replace N9 := ins3 cK N9)); clear cK cN); (try k_sweep); (try dsimp only); (try k_fold)))))))) | ((k_here; (with_reducible show wpAny _ _ (call (Value.ref 821) _) _ _ _); k_dflt (((fail "fq"; refine' CtP.use (back_seg SS9 _ _ _ _ _ _ _) ?qzB ?qzF ?qzX ?qzN ?qzT ?qzK1 ?qzK ?qzp ?qzd ?qzu ?_); ((((case qzB => k_asm); (case qzF => k_asm); (case qzX => k_asm); (case qzN => k_asm); (case qzT => k_asm); (case qzK1 => first | exact rfl | assumption); (case qzK => first | exact rfl | assumption)))); (case qzp => exact ⟨SegP.use SS9 (by k_asm) (by fail "mine sub"), ssl⟩); (case qzd => ktr_room); (case qzu => ktr_units); ((((intro cv ch ctk cS F9 N9 cl cL cP; obtain ⟨fs, cf, cK, cN⟩ := PF.come (by k_asm) (by k_asm) cP; clear cP cS cl cL; (replace AA := up3 AA cN (by fail "mine mem2") (by fail "mine mem2") (by fail "mine mem2")); (try (replace aD := AllNe.ins3 aD (cN (du, _) (by fail "mine mem2")))); (try (replace aT := AllNe.ins4 aT (cN (td, _) (by fail "mine mem2")))); (first | (replace N9 := ins8 cK N9) | (replace N9 := ins7 cK N9) | (replace N9 := ins6 cK N9) | (replace N9 := ins5 cK N9) | (replace N9 := ins4 cK N9) | (replace N9 := ins3 cK N9)); clear cK cN); (try k_sweep); (try dsimp only); (try k_fold)))))))) | ((k_here; (with_reducible show wpAny _ _ (call (Value.ref 816) _) _ _ _); k_dflt (((fail "fq"; refine' CtP.use (ahead_seg SS9 _ _ _ _ _ _ _) ?qzB ?qzF ?qzX ?qzN ?qzT ?qzK1 ?qzK ?qzp ?qzd ?qzu ?_); ((((case qzB => k_asm); (case qzF => k_asm); (case qzX => k_asm); (case qzN => k_asm); (case qzT => k_asm); (case qzK1 => first | exact rfl | assumption); (case qzK => first | exact rfl | assumption)))); (case qzp => exact ⟨SegP.use SS9 (by k_asm) (by fail "mine sub"), ssl⟩); (case qzd => ktr_room); (case qzu => ktr_units); ((((intro cv ch ctk cS F9 N9 cl cL cP; obtain ⟨fs, cf, cK, cN⟩ := PF.come (by k_asm) (by k_asm) cP; clear cP cS cl cL; (replace AA := up3 AA cN (by fail "mine mem2") (by fail "mine mem2") (by fail "mine mem2")); (try (replace aD := AllNe.ins3 aD (cN (du, _) (by fail "mine mem2")))); (try (replace aT := AllNe.ins4 aT (cN (td, _) (by fail "mine mem2")))); (first | (replace N9 := ins8 cK N9) | (replace N9 := ins7 cK N9) | (replace N9 := ins6 cK N9) | (replace N9 := ins5 cK N9) | (replace N9 := ins4 cK N9) | (replace N9 := ins3 cK N9)); clear cK cN); (try k_sweep); (try dsimp only); (try k_fold)))))))) | ((k_here; (with_reducible show wpAny _ _ (call (Value.ref 806) _) _ _ _); k_dflt (((fail "fq"; refine' CtM.useR (draw_seg SD _ dk _ _ _ _ _ (KB.ok kbT ?qzs2) ?qzs3) ?qzB ?qzF ?qzX ?qzN ?qzT ?qzK1 ?qzK (Rems.cons (Rem.head (AllNe.all A0)) Rems.nil) ?qzp ?qzd ?qzu ?_); (case qzB => (k_asm)); (case qzF => (k_asm)); (case qzX => (k_asm)); (case qzN => (first | k_asm | exact drop1 (by k_asm))); (case qzT => (k_asm)); (case qzK1 => (first | exact rfl | assumption)); (case qzK => (first | exact rfl | assumption)); (case qzs2 => decide); (case qzs3 => first | exact ⟨by decide, by decide⟩ | exact many_ok' b8 (by decide) (by decide)); (case qzp => (intro g2 G2 S2; have z9 := SegP.onG SD (by k_asm) (by first | fail "mine sub" | fail) A1 G2; exact ⟨z9, len40⟩)); (case qzd => (ktr_room)); (case qzu => (ktr_units)); (intro cv ch ctk cG F9 N9 cO cP; obtain ⟨r9, t9, tk9, n9, cV, r91, r92, cD⟩ := cP; replace N9 := news_put N9 cD (cO _ (List.Mem.head _)); replace kbT := KB.succ kbT; clear cG cO cD; subst cV; (try k_sweep); (try dsimp only); (try k_fold)))))) | ((k_here; (with_reducible show wpAny _ _ (call (Value.ref 811) _) _ _ _); k_dflt (((fail "fq"; refine' CtP.use (stands_c _ _ _ _ _ _ (str_len b8) (str_len b7)) ?qzB ?qzF ?qzX ?qzN ?qzT ?qzK1 ?qzK trivial ?qzd ?qzu ?_); (case qzB => k_asm); (case qzF => k_asm); (case qzX => k_asm); (case qzN => k_asm); (case qzT => k_asm); (case qzK1 => first | exact rfl | assumption); (case qzK => first | exact rfl | assumption); (case qzd => ktr_room); (case qzu => ktr_units); (intro cv ch ctk cS F9 N9 cl cL cP; obtain ⟨lS, wsS, nS, cV, cQ, hiS, cR⟩ := cP; obtain ⟨NS, dS⟩ := fresh_onto (by k_asm) (by k_asm) N9 cQ cR; clear cl cL cS cQ cR N9; subst cV; (try k_sweep); (try dsimp only); (try k_fold)))))) | ((k_here; (with_reducible show wpAny _ _ (call (Value.ref 806) _) _ _ _); k_dflt (((fail "fq"; refine' CtM.useR (draw_c _ _ _ _ _ _ _ _ _ (KB.ok ?qzs1 ?qzs2) ⟨?qzs3, ?qzs4⟩) ?qzB ?qzF ?qzX ?qzN ?qzT ?qzK1 ?qzK ?qzR ?qzp ?qzd ?qzu ?_); (case qzB => (k_asm)); (case qzF => (k_asm)); (case qzX => (k_asm)); (case qzN => (k_asm)); (case qzT => (k_asm)); (case qzK1 => (first | exact rfl | assumption)); (case qzK => (first | exact rfl | assumption)); (case qzR => (fail "mine rems")); (case qzs1 => (fail "mine kb")); (case qzs2 => decide); (case qzs3 => first | decide | omega); (case qzs4 => first | decide | omega); (case qzp => (intro g2 G2 S2; exact ⟨⟨_, ⟨_, G2 _ _ (News.get (by k_asm) (by k_mem)) (by simp; k_ne), rfl, _, rfl⟩, by assumption⟩, len40⟩)); (case qzd => (ktr_room)); (case qzu => (ktr_units)); (intro cv ch ctk cG F9 N9 cO cP; obtain ⟨r9, t9, tk9, n9, cV, r91, r92, cD⟩ := cP; replace N9 := news_put N9 cD (cO _ (List.Mem.head _)); clear cG cO cD; subst cV; (try k_sweep); (try dsimp only); (try k_fold)); )))) | fail) | ((with_reducible show wpAny _ _ (pyIter (Value.ref _)) _ _ _); k_dflt ((((rename News _ _ _ _ => N6); refine' range_T (σ := LS) 4 [Str.ofString "place", Str.ofString "count", Str.ofString "high", Str.ofString "low", Str.ofString "due", Str.ofString "told_own", Str.ofString "found"] (fun st => (dk, W.listOf #[.ref dc, .int st.k st.tk] st.n) :: (PT, tabObj st.ps) :: st.tl) (fun i st => KB st.k (18 + 4 * (i : Int)) ∧ LoopI dk PT _ _ _ dc _ _ _ _ _ _ (Str.ofString "law.<locals>.<lambda>") st.ps st.tl) ⟨_, _, _, _, _⟩ rfl (by assumption) (by decide) rfl (by assumption) N6 ⟨kbL, LI⟩ (fun i9 t9 u9 st9 h9 tk9 I9 oI9 hi9 hP9 off9 F9 N9 => ?_) (fun u9 st9 h9 tk9 hP9 F9 N9 => ?_); rotate_left; (subst hPT); rotate_right)))) | walk1 | (k_end; wrow_close) | (dsimp only; walk1) | (leave1; try dsimp only) | (dsimp only) | fail "no step"))
    (rename News _ _ _ _ => N5)
    have hdk : (dk : Addr) ≠ 835 := by k_ne
    obtain ⟨PT, tl0, hPT, hdk9, N6, LI⟩ := loop_in (q := Str.ofString "law.<locals>.<lambda>") N5 hiS hy' (by assumption) (by assumption) (by rw [ofN_length]; omega) ⟨by omega, by omega⟩ ⟨by k_ne, by k_ne, by k_ne, by k_ne, by k_ne, by k_ne, by k_ne, by k_ne, by k_ne, by k_ne, by k_ne, by k_ne, trivial⟩ ⟨by k_ne, by k_ne, by k_ne, by k_ne, by k_ne, by k_ne, by k_ne, by k_ne, by k_ne, by k_ne, by k_ne, by k_ne, trivial⟩ hdk
    have kbL : KB (k7 + 1 + 1) (18 + 4 * ((0 : Nat) : Int)) := KB.succ (KB.succ kb7)
    clear N5 hdk
    (repeat ((with_reducible rename AllNe _ _ => z9); clear z9))
    (repeat ((with_reducible rename LCg.Off1 _ _ => z9); clear z9))
    (repeat' ((fail_if_success (with_reducible show wpAny _ _ (exec (Stmt.Assign _ _ ⟨704, _, _, _⟩) _) _ _ _)); first | fail "unf" | ((with_reducible show GoodW _ _ _ _ _ _ _); first | ((k_dflt (refine' goodW_bool ?qzg1 ?qzg2 ?qzg3 ?qzg4 ?qzg5; (case qzg1 => k_asm); (case qzg2 => k_asm); (case qzg3 => (intro _; kernel_rfl!)); (case qzg4 => kernel_rfl!); (case qzg5 => first | rfl | kernel_rfl!); ))) | fail) | ((with_reducible show wpAny _ _ (eval (Expr.Name _ _) _) _ _ _); first | ((k_here; first | ((with_reducible show wpAny _ _ (eval (Expr.Name _ _) (compEnvC _ _ _ _)) _ _ _); k_dflt (first | (refine' kcf_cell ?qzN ?qzc ?qzm ?qzd ?_ ?qza ?qzb; (case qza => rfl); (case qzb => rfl); (case qzN => k_asm); (case qzc => rfl); (case qzm => fail "mine mem2"); (case qzd => k_asm); k_whole) | (refine' LCgL.ld_own ?qza ?qzb ?qzc ?qzd ?_; (case qza => k_asm); (case qzb => k_mem); (case qzc => assumption); (case qzd => assumption); k_whole) | (refine' LCgL.ld_global ?qza ?qzb ?qzc ?qzd ?_; (case qza => k_asm); (case qzb => k_asm); (case qzc => k_asm); (case qzd => k_is); k_whole) | (refine' LCgL.ld_built ?qza ?qzb ?qzc ?qzd ?qze ?qzf ?_; (case qza => k_asm); (case qzb => k_asm); (case qzc => k_asm); (case qzd => k_is); (case qze => boot_by_name); (case qzf => decide); k_whole))) | k_dflt (first | (refine' name_L ?qzF ?qzv ?qzo ?_; (case qzo => decide +kernel); (case qzF => k_asm); (case qzv => rfl); k_whole) | (refine' name_G ?qzF ?qzX ?qzT ?qze ?qzo ?_; (case qzo => decide +kernel); (case qzF => k_asm); (case qzX => k_asm); (case qzT => k_asm); (case qze => k_is); k_whole) | (refine' name_C ?qzN ?qzc ?qzm ?qzd ?qzo ?_; (case qzo => decide +kernel); (case qzN => k_asm); (case qzc => rfl); (case qzm => fail "mine mem2"); (case qzd => k_asm); k_whole) | (refine' name_I ?qzF ?qzX ?qzT ?qze ?qzv ?qzn ?qzo ?_; (case qzo => decide +kernel); (case qzF => k_asm); (case qzX => k_asm); (case qzT => k_asm); (case qze => k_is); (case qzv => boot_fast); (case qzn => decide); k_whole)))) | ((k_here; (with_reducible show wpAny _ _ (eval (Expr.Name _ _) (compEnvC _ _ _ _)) _ _ _); k_dflt (refine' kcf_cell ?qN ?qc ?qm ?qd ?_ ?qa ?qb; (case qa => rfl); (case qb => rfl); (case qN => k_asm); (case qc => rfl); (case qm => fail "mine mem2"); (case qd => k_asm); k_whole))) | ((k_here; k_dflt (refine' nameX_G ?qF ?qc ?qg ?qd ?_ ?qa ?qb; (case qa => rfl); (case qb => rfl); (case qF => k_asm); (case qc => rfl); (case qg => first | exact g6 | exact g5 | exact g4 | exact g3 | exact g2 | exact g1); (case qd => k_asm); k_whole))) | ((k_here; k_dflt (refine' nameX_C ?qN ?qc ?qm ?qd ?_ ?qa ?qb; (case qa => rfl); (case qb => rfl); (case qN => k_asm); (case qc => rfl); (case qm => fail "mine mem2"); (case qd => k_asm); k_whole))) | fail) | ((with_reducible show wpAny _ _ (callWith _ (Value.ref _) _ _ _) _ _ _); first | ((k_here; k_dflt (first | (refine' callWith_K ?qk1 ?qk2 ?_; (case qk1 => k_asm); (case qk2 => k_is); k_whole) | (refine' callWith_K0F ?qk0 ?qk1 ?qk2 ?_; (case qk0 => k_asm); (case qk1 => k_asm); (case qk2 => k_is); k_whole) | (refine' callWith_KW ?qk1 ?qk2 ?qk3 ?_; (case qk1 => k_asm); (case qk2 => k_is); (case qk3 => exact rfl); k_whole) | (refine' callWith_KW0 ?qk1 ?qk2 ?qk3 ?_; (case qk1 => k_asm); (case qk2 => k_is); (case qk3 => exact rfl); k_whole)))) | ((k_here; k_dflt (refine' callWith_K ?qk1 ?qk2 ?_; (case qk1 => k_asm); (case qk2 => k_is); k_whole))) | fail) | ((with_reducible show EndX _ _ _ _ _ _ _); first | ((k_dflt ((refine' jt_out ?qjF ?qjN AA n1 n2 ?qjm ⟨KB.four hkb, LoopI.up hLI ?qjs AA.1 AA.2.2 (TabSt.up TS ?qjt)⟩; (case qjF => k_asm); (case qjN => first | k_asm | exact drop1 (by k_asm) | exact drop1 (drop1 (by k_asm)) | exact drop1 (drop1 (drop1 (by k_asm))) | exact drop1 (drop1 (drop1 (drop1 (by k_asm)))) | exact drop1 (drop1 (drop1 (drop1 (drop1 (by k_asm)))))); (case qjm => ((intro z h1 h2; (try dsimp +zetaDelta only); (simp only [List.contains_cons, List.contains_nil, Bool.or_false, Bool.or_eq_false_iff, beq_eq_false_iff_ne, ne_eq] at h1 h2); (simp [h1, h2]; done)))); (case qjs => fail "mine sub"); (case qjt => fail "mine sub"))))) | fail) | ((with_reducible show wpAny _ _ (compareOp CmpOp.NotEq _ _) _ _ _); first | ((k_here; k_dflt ((refine ne_find (FindIn.at (reS (by assumption) (by assumption)) (by k_asm) (by fail "mine sub")) (FindIn.at (by assumption) (by k_asm) (by fail "mine sub")) (by ktr_units) ?_)))) | fail) | ((with_reducible show wpAny _ _ (compareOp CmpOp.NotEq (Value.ref _) (Value.ref _)) _ _ _); first | ((k_here; (with_reducible show wpAny _ _ (compareOp CmpOp.NotEq (Value.ref _) (Value.ref _)) _ _ _); k_dflt ((refine ne_finds (by k_asm) (by fail "mine mem2") (by fail "mine mem2") rfl rfl rfl rfl VT hf9 (by fail "mine sub") (by fail "mine sub") (by ktr_units) ?_)))) | fail) | ((with_reducible show LCg.CompSrc _ _ _ _ _ _ _ _ _ _ _ _ _ _); first | ((k_here; k_dflt (((rename News _ _ _ _ => lN'); (refine LCg.CompSrc.ledger (by rfl) (by k_asm) lN' (by fail "mine mem2") (Nat.le_of_ble_eq_true rfl) ?_; intro g'; refine comp_moved' VT VD (fun i9 o9 v9 ys9 fs9 I' oI' C' oC' D' m' h' tk' E' ho9 hv9 hI9 hC' hx' F' N' off9 ne' => ?_) (fun ys9 fs9 hf9 => ?_)))); (all_goals (try k_fold)))) | fail) | ((with_reducible show wpAny _ _ (eval (Expr.Lambda _ _ _ _) _) _ _ _); first | ((k_here; k_dflt (((refine' kla_eval ?qd0 ?_; (case qd0 => exact rfl)); (refine' lam_come ?qF ?qN ?qT ?qC ?qcd (rem5 nT nD hdk9 n1 AA.2.2) TS ?qhq ?qcl ?_; (case qF => k_asm); (case qN => k_asm); (case qT => k_asm); (case qcd => exact rfl); (case qC => (rw [hPT]; kn_code)); (case qhq => first | exact rfl | decide +kernel); (case qcl => exact rfl)); (intro f9 c9 ctv9 pt9 ls h' tk' F9 N9 cK cP cN mf SR TS9; replace AA := up3L AA cN cP (by fail "mine mem2") (by fail "mine mem2"); replace aT := aT_up (o' := tabObj pt9) aT cN (by fail "mine mem2"); replace N9 := ins5 cK (rot5 N9); clear cK cP cN; replace TS := TS9); (try k_sweep); (try dsimp only); (try k_fold))))) | fail) | ((with_reducible show wpAny _ _ (call (Value.builtin "list.append") _) _ _ _); first | ((k_here; (with_reducible show wpAny _ _ (call (Value.builtin _) [Value.ref _, _]) _ _ _); k_dflt (((refine' append_K ?qk1 ?qk2 ?qk3 ?_ ?qz; (case qk1 => k_asm); (case qk2 => k_asm); (case qk3 => first | exact Upd.head (AllNe.all aT) | exact Upd.head (AllNe.all aD)); (case qz => exact Nat.le_of_ble_eq_true rfl); k_whole); intro h' F' N'; (try k_sweep))))) | fail) | ((with_reducible show wpAny _ _ (call (Value.builtin "len") _) _ _ _); first | ((k_here; (with_reducible show wpAny _ _ (call (Value.builtin "len") [Value.str _ _]) _ _ _); k_dflt (first | refine len_text b8 (by decide) ?_ | refine len_text b7 (by decide) ?_))) | fail) | ((with_reducible show wpAny _ _ (call (Value.type _) [Value.ref _]) _ _ _); first | ((k_here; (with_reducible show wpAny _ _ (call (Value.type _) [Value.ref _]) _ _ _); k_dflt (refine' list_ofLst ?qF ?qN ?qb ?qi ?ql ?qz ?_; (case qF => k_asm); (case qN => k_asm); (case qb => k_mem); (case qi => assumption); (case ql => assumption); (case qz => decide)); intro D' c' h' F' N' l1; (try k_lt l1); (try k_sweep))) | fail) | ((with_reducible show LCg.CompEnd _ _ _ _ _ _ _ _ _ _ _ _ _ _); first | ((k_here; k_dflt (refine keep_end (by k_asm) N' off' trivial (OrdR.step hi' hc' (by rfl))))) | fail) | ((with_reducible show TxtSrc _ _ _ _ _ _ _ _ _ _ _ _ _ _); first | ((k_here; k_dflt (((rename News _ _ _ _ => lN'); (refine ⟨_, _, _, rfl, rfl, by k_asm, lN', by exact txt_size (by assumption) (by decide), fun g' => comp_ords (fun i' c' ys' u' I' oI' C' oC' D' m' h' tk' E' hc' hm' hi' hC' hx' F' N' off' ne' => ?_) (fun ys' hy' => ?_)⟩))))) | fail) | ((with_reducible show wpAny _ _ (call (Value.builtin "str.join") _) _ _ _); first | ((k_here; first | (k_dflt (refine' join_drawn ?qk1 hR7 ?qk2 ?_; (case qk1 => exact News.isList (by k_asm) (by k_mem)); (case qk2 => exact len_r (by assumption) (by assumption) (by decide))); intro _ _) | (k_dflt (refine' join_drawn ?qk1 hR8 ?qk2 ?_; (case qk1 => exact News.isList (by k_asm) (by k_mem)); (case qk2 => exact len_r (by assumption) (by assumption) (by decide))); intro _ _) | fail)) | fail) | ((with_reducible show wpAny _ _ (call (Value.ref _) _) _ _ _); first | ((k_here; (first | (with_reducible show wpAny _ _ (call (Value.ref 795) _) _ _ _) | (with_reducible show wpAny _ _ (call (Value.ref 626) _) _ _ _)); k_dflt (refine' call_cls ?qk1 ?qk2 ?qk3 ?qk4 ?qk5 ?qk6 ?_; (case qk1 => k_asm); (case qk2 => k_asm); (case qk3 => k_asm); (case qk4 => k_is); (case qk5 => k_is); (case qk6 => k_is); k_whole; intro x' d' h' F' N' l1 l2; (try k_lt l1); (try k_lt2 l2); (try k_sweep); k_enter; ))) | ((k_here; (with_reducible show wpAny _ _ (call (Value.ref 672) _) _ _ _); k_dflt (((fail "fq"; refine' CtP.use (match_seg hR7 hiQ hy' b7 b8 ?qzs1 ?qzs2 _ _ _ _ _) ?qzB ?qzF ?qzX ?qzN ?qzT ?qzK1 ?qzK ?qzp ?qzd ?qzu ?_); ((((case qzB => k_asm); (case qzF => k_asm); (case qzX => k_asm); (case qzN => k_asm); (case qzT => k_asm); (case qzK1 => first | exact rfl | assumption); (case qzK => first | exact rfl | assumption)))); (case qzs1 => assumption); (case qzs2 => assumption); (case qzp => exact ⟨ints_at (by k_asm) (by fail "mine mem2") hiQ, ints_at (by k_asm) (by fail "mine mem2") hy'⟩); (case qzd => ktr_room); (case qzu => ktr_units); ((((intro cv ch ctk cS F9 N9 cl cL cP; obtain ⟨fs, cf, cK, cN⟩ := PF.come (by k_asm) (by k_asm) cP; clear cP cS cl cL; (replace AA := up3 AA cN (by fail "mine mem2") (by fail "mine mem2") (by fail "mine mem2")); (try (replace aD := AllNe.ins3 aD (cN (du, _) (by fail "mine mem2")))); (try (replace aT := AllNe.ins4 aT (cN (td, _) (by fail "mine mem2")))); (first | (replace N9 := ins8 cK N9) | (replace N9 := ins7 cK N9) | (replace N9 := ins6 cK N9) | (replace N9 := ins5 cK N9) | (replace N9 := ins4 cK N9) | (replace N9 := ins3 cK N9)); clear cK cN); (try k_sweep); (try dsimp only); (try k_fold)))))))) | ((k_here; (with_reducible show wpAny _ _ (call (Value.ref 679) _) _ _ _); k_dflt (((fail "fq"; refine' CtP.use (quote_seg SI hR7 b7 _) ?qzB ?qzF ?qzX ?qzN ?qzT ?qzK1 ?qzK ?qzp ?qzd ?qzu ?_); ((((case qzB => k_asm); (case qzF => k_asm); (case qzX => k_asm); (case qzN => k_asm); (case qzT => k_asm); (case qzK1 => first | exact rfl | assumption); (case qzK => first | exact rfl | assumption)))); (case qzp => exact SegP.use SI (by k_asm) (by fail "mine sub")); (case qzd => ktr_room); (case qzu => ktr_units); (intro cv ch ctk cS F9 N9 cl cL cP; obtain ⟨lQ, wsQ, nQ, cV, cQ, hiQ, cR⟩ := cP; obtain ⟨NS, dQ⟩ := fresh_onto (by k_asm) (by k_asm) N9 cQ cR; clear cl cL cS cQ cR N9; subst cV; (try k_sweep); (try dsimp only); (try k_fold)))))) | ((k_here; (with_reducible show wpAny _ _ (call (Value.ref 833) _) _ _ _); k_dflt (((fail "fq"; refine' CtP.use (law_moved_c _ _ o9 _ _) ?qzB ?qzF ?qzX ?qzN ?qzT ?qzK1 ?qzK ?qzp ?qzd ?qzu ?_); ((((case qzB => k_asm); (case qzF => k_asm); (case qzX => k_asm); (case qzN => k_asm); (case qzT => k_asm); (case qzK1 => first | exact rfl | assumption); (case qzK => first | exact rfl | assumption)))); (case qzp => exact FindIn.at hv9 (by k_asm) (by fail "mine sub")); (case qzd => ktr_room); (case qzu => ktr_units); (intro cv ch ctk cS F9 N9 cl cL cP; exact moved_end (by k_asm) F9 (by k_asm) N9 off9 cP ho9 hI9 (fun fs => src_at (by fail "mine mem2") fs)))))) | ((k_here; (with_reducible show wpAny _ _ (call (Value.ref 651) _) _ _ _); k_dflt (((fail "fq"; refine' CtP.use (searchB_seg SV SI _ _ _ _ _ _) ?qzB ?qzF ?qzX ?qzN ?qzT ?qzK1 ?qzK ?qzp ?qzd ?qzu ?_); ((((case qzB => k_asm); (case qzF => k_asm); (case qzX => k_asm); (case qzN => k_asm); (case qzT => k_asm); (case qzK1 => first | exact rfl | assumption); (case qzK => first | exact rfl | assumption)))); (case qzp => exact pre_lam hp (Fr.keep (by k_asm)) SV SI psl (by exact strongP h91 h92 b8 (by assumption) (by assumption)) (by exact strongB (by assumption) (by assumption))); (case qzd => ktr_room); (case qzu => ktr_units); (intro cv ch ctk cS F9 N9 cl cL cP; exact hret _ _ _ (Fr.keep F9) (PF.back (Fr.keep (by k_asm)) cP)))))) | ((k_here; (with_reducible show wpAny _ _ (call (Value.ref 644) _) _ _ _); k_dflt (((fail "fq"; refine' CtP.use (searchF_seg SV SI _ _ _ _ _ _) ?qzB ?qzF ?qzX ?qzN ?qzT ?qzK1 ?qzK ?qzp ?qzd ?qzu ?_); ((((case qzB => k_asm); (case qzF => k_asm); (case qzX => k_asm); (case qzN => k_asm); (case qzT => k_asm); (case qzK1 => first | exact rfl | assumption); (case qzK => first | exact rfl | assumption)))); (case qzp => exact pre_lam hp (Fr.keep (by k_asm)) SV SI psl (by exact strongP h91 h92 b8 (by assumption) (by assumption)) (by exact strongN b8 (by assumption) (by assumption))); (case qzd => ktr_room); (case qzu => ktr_units); (intro cv ch ctk cS F9 N9 cl cL cP; exact hret _ _ _ (Fr.keep F9) (PF.back (Fr.keep (by k_asm)) cP)))))) | ((k_here; (with_reducible show wpAny _ _ (call (Value.ref 651) _) _ _ _); k_dflt (((fail "fq"; refine' CtP.use (searchB_seg SV SI _ _ _ _ _ _) ?qzB ?qzF ?qzX ?qzN ?qzT ?qzK1 ?qzK ?qzp ?qzd ?qzu ?_); ((((case qzB => k_asm); (case qzF => k_asm); (case qzX => k_asm); (case qzN => k_asm); (case qzT => k_asm); (case qzK1 => first | exact rfl | assumption); (case qzK => first | exact rfl | assumption)))); (case qzp => exact pre_search SV SI (by k_asm) (by fail "mine sub") psl (by exact rng_ok (by assumption) (by assumption) (by decide) b8 (by assumption) (by assumption)) (by exact rng_ok (by assumption) (by assumption) (by decide) b8 (by assumption) (by assumption))); (case qzd => ktr_room); (case qzu => ktr_units); ((((intro cv ch ctk cS F9 N9 cl cL cP; obtain ⟨fs, cf, cK, cN⟩ := PF.come (by k_asm) (by k_asm) cP; clear cP cS cl cL; (replace AA := up3 AA cN (by fail "mine mem2") (by fail "mine mem2") (by fail "mine mem2")); (try (replace aD := AllNe.ins3 aD (cN (du, _) (by fail "mine mem2")))); (try (replace aT := AllNe.ins4 aT (cN (td, _) (by fail "mine mem2")))); (first | (replace N9 := ins8 cK N9) | (replace N9 := ins7 cK N9) | (replace N9 := ins6 cK N9) | (replace N9 := ins5 cK N9) | (replace N9 := ins4 cK N9) | (replace N9 := ins3 cK N9)); clear cK cN); (try k_sweep); (try dsimp only); (try k_fold)))))))) | ((k_here; (with_reducible show wpAny _ _ (call (Value.ref 644) _) _ _ _); k_dflt (((fail "fq"; refine' CtP.use (searchF_seg SV SI _ _ _ _ _ _) ?qzB ?qzF ?qzX ?qzN ?qzT ?qzK1 ?qzK ?qzp ?qzd ?qzu ?_); ((((case qzB => k_asm); (case qzF => k_asm); (case qzX => k_asm); (case qzN => k_asm); (case qzT => k_asm); (case qzK1 => first | exact rfl | assumption); (case qzK => first | exact rfl | assumption)))); (case qzp => exact pre_search SV SI (by k_asm) (by fail "mine sub") psl (by exact rng_ok (by assumption) (by assumption) (by decide) b8 (by assumption) (by assumption)) (by exact rng_ok (by assumption) (by assumption) (by decide) b8 (by assumption) (by assumption))); (case qzd => ktr_room); (case qzu => ktr_units); ((((intro cv ch ctk cS F9 N9 cl cL cP; obtain ⟨fs, cf, cK, cN⟩ := PF.come (by k_asm) (by k_asm) cP; clear cP cS cl cL; (replace AA := up3 AA cN (by fail "mine mem2") (by fail "mine mem2") (by fail "mine mem2")); (try (replace aD := AllNe.ins3 aD (cN (du, _) (by fail "mine mem2")))); (try (replace aT := AllNe.ins4 aT (cN (td, _) (by fail "mine mem2")))); (first | (replace N9 := ins8 cK N9) | (replace N9 := ins7 cK N9) | (replace N9 := ins6 cK N9) | (replace N9 := ins5 cK N9) | (replace N9 := ins4 cK N9) | (replace N9 := ins3 cK N9)); clear cK cN); (try k_sweep); (try dsimp only); (try k_fold)))))))) | ((k_here; (with_reducible show wpAny _ _ (call (Value.ref 828) _) _ _ _); k_dflt (((fail "fq"; refine' CtP.use (often_seg SS9 _ _ _ _ _ _ _ _ _ ?qzs1) ?qzB ?qzF ?qzX ?qzN ?qzT ?qzK1 ?qzK ?qzp ?qzd ?qzu ?_); ((((case qzB => k_asm); (case qzF => k_asm); (case qzX => k_asm); (case qzN => k_asm); (case qzT => k_asm); (case qzK1 => first | exact rfl | assumption); (case qzK => first | exact rfl | assumption)))); (case qzs1 => first | exact cnt_ok (by assumption) (by assumption) | exact cnt_ok' (by assumption) (by assumption)); (case qzp => exact ⟨SegP.use SS9 (by k_asm) (by fail "mine sub"), ssl⟩); (case qzd => ktr_room); (case qzu => ktr_units); ((((intro cv ch ctk cS F9 N9 cl cL cP; obtain ⟨fs, cf, cK, cN⟩ := PF.come (by k_asm) (by k_asm) cP; clear cP cS cl cL; (replace AA := up3 AA cN (by fail "mine mem2") (by fail "mine mem2") (by fail "mine mem2")); (try (replace aD := AllNe.ins3 aD (cN (du, _) (by fail "mine mem2")))); (try (replace aT := AllNe.ins4 aT (cN (td, _) (by fail "mine mem2")))); (first | (replace N9 := ins8 cK N9) | (replace N9 := ins7 cK N9) | (replace N9 := ins6 cK N9) | (replace N9 := ins5 cK N9) | (replace N9 := ins4 cK N9) | (replace N9 := ins3 cK N9)); clear cK cN); (try k_sweep); (try dsimp only); (try k_fold)))))))) | ((k_here; (with_reducible show wpAny _ _ (call (Value.ref 821) _) _ _ _); k_dflt (((fail "fq"; refine' CtP.use (back_seg SS9 _ _ _ _ _ _ _) ?qzB ?qzF ?qzX ?qzN ?qzT ?qzK1 ?qzK ?qzp ?qzd ?qzu ?_); ((((case qzB => k_asm); (case qzF => k_asm); (case qzX => k_asm); (case qzN => k_asm); (case qzT => k_asm); (case qzK1 => first | exact rfl | assumption); (case qzK => first | exact rfl | assumption)))); (case qzp => exact ⟨SegP.use SS9 (by k_asm) (by fail "mine sub"), ssl⟩); (case qzd => ktr_room); (case qzu => ktr_units); ((((intro cv ch ctk cS F9 N9 cl cL cP; obtain ⟨fs, cf, cK, cN⟩ := PF.come (by k_asm) (by k_asm) cP; clear cP cS cl cL; (replace AA := up3 AA cN (by fail "mine mem2") (by fail "mine mem2") (by fail "mine mem2")); (try (replace aD := AllNe.ins3 aD (cN (du, _) (by fail "mine mem2")))); (try (replace aT := AllNe.ins4 aT (cN (td, _) (by fail "mine mem2")))); (first | (replace N9 := ins8 cK N9) | (replace N9 := ins7 cK N9) | (replace N9 := ins6 cK N9) | (replace N9 := ins5 cK N9) | (replace N9 := ins4 cK N9) | (replace N9 := ins3 cK N9)); clear cK cN); (try k_sweep); (try dsimp only); (try k_fold)))))))) | ((k_here; (with_reducible show wpAny _ _ (call (Value.ref 816) _) _ _ _); k_dflt (((fail "fq"; refine' CtP.use (ahead_seg SS9 _ _ _ _ _ _ _) ?qzB ?qzF ?qzX ?qzN ?qzT ?qzK1 ?qzK ?qzp ?qzd ?qzu ?_); ((((case qzB => k_asm); (case qzF => k_asm); (case qzX => k_asm); (case qzN => k_asm); (case qzT => k_asm); (case qzK1 => first | exact rfl | assumption); (case qzK => first | exact rfl | assumption)))); (case qzp => exact ⟨SegP.use SS9 (by k_asm) (by fail "mine sub"), ssl⟩); (case qzd => ktr_room); (case qzu => ktr_units); ((((intro cv ch ctk cS F9 N9 cl cL cP; obtain ⟨fs, cf, cK, cN⟩ := PF.come (by k_asm) (by k_asm) cP; clear cP cS cl cL; (replace AA := up3 AA cN (by fail "mine mem2") (by fail "mine mem2") (by fail "mine mem2")); (try (replace aD := AllNe.ins3 aD (cN (du, _) (by fail "mine mem2")))); (try (replace aT := AllNe.ins4 aT (cN (td, _) (by fail "mine mem2")))); (first | (replace N9 := ins8 cK N9) | (replace N9 := ins7 cK N9) | (replace N9 := ins6 cK N9) | (replace N9 := ins5 cK N9) | (replace N9 := ins4 cK N9) | (replace N9 := ins3 cK N9)); clear cK cN); (try k_sweep); (try dsimp only); (try k_fold)))))))) | ((k_here; (with_reducible show wpAny _ _ (call (Value.ref 806) _) _ _ _); k_dflt (((fail "fq"; refine' CtM.useR (draw_seg SD _ dk _ _ _ _ _ (KB.ok kbT ?qzs2) ?qzs3) ?qzB ?qzF ?qzX ?qzN ?qzT ?qzK1 ?qzK (Rems.cons (Rem.head (AllNe.all A0)) Rems.nil) ?qzp ?qzd ?qzu ?_); (case qzB => (k_asm)); (case qzF => (k_asm)); (case qzX => (k_asm)); (case qzN => (first | k_asm | exact drop1 (by k_asm))); (case qzT => (k_asm)); (case qzK1 => (first | exact rfl | assumption)); (case qzK => (first | exact rfl | assumption)); (case qzs2 => decide); (case qzs3 => first | exact ⟨by decide, by decide⟩ | exact many_ok' b8 (by decide) (by decide)); (case qzp => (intro g2 G2 S2; have z9 := SegP.onG SD (by k_asm) (by first | fail "mine sub" | fail) A1 G2; exact ⟨z9, len40⟩)); (case qzd => (ktr_room)); (case qzu => (ktr_units)); (intro cv ch ctk cG F9 N9 cO cP; obtain ⟨r9, t9, tk9, n9, cV, r91, r92, cD⟩ := cP; replace N9 := news_put N9 cD (cO _ (List.Mem.head _)); replace kbT := KB.succ kbT; clear cG cO cD; subst cV; (try k_sweep); (try dsimp only); (try k_fold)))))) | ((k_here; (with_reducible show wpAny _ _ (call (Value.ref 811) _) _ _ _); k_dflt (((fail "fq"; refine' CtP.use (stands_c _ _ _ _ _ _ (str_len b8) (str_len b7)) ?qzB ?qzF ?qzX ?qzN ?qzT ?qzK1 ?qzK trivial ?qzd ?qzu ?_); (case qzB => k_asm); (case qzF => k_asm); (case qzX => k_asm); (case qzN => k_asm); (case qzT => k_asm); (case qzK1 => first | exact rfl | assumption); (case qzK => first | exact rfl | assumption); (case qzd => ktr_room); (case qzu => ktr_units); (intro cv ch ctk cS F9 N9 cl cL cP; obtain ⟨lS, wsS, nS, cV, cQ, hiS, cR⟩ := cP; obtain ⟨NS, dS⟩ := fresh_onto (by k_asm) (by k_asm) N9 cQ cR; clear cl cL cS cQ cR N9; subst cV; (try k_sweep); (try dsimp only); (try k_fold)))))) | ((k_here; (with_reducible show wpAny _ _ (call (Value.ref 806) _) _ _ _); k_dflt (((fail "fq"; refine' CtM.useR (draw_c _ _ _ _ _ _ _ _ _ (KB.ok ?qzs1 ?qzs2) ⟨?qzs3, ?qzs4⟩) ?qzB ?qzF ?qzX ?qzN ?qzT ?qzK1 ?qzK ?qzR ?qzp ?qzd ?qzu ?_); (case qzB => (k_asm)); (case qzF => (k_asm)); (case qzX => (k_asm)); (case qzN => (k_asm)); (case qzT => (k_asm)); (case qzK1 => (first | exact rfl | assumption)); (case qzK => (first | exact rfl | assumption)); (case qzR => (fail "mine rems")); (case qzs1 => (fail "mine kb")); (case qzs2 => decide); (case qzs3 => first | decide | omega); (case qzs4 => first | decide | omega); (case qzp => (intro g2 G2 S2; exact ⟨⟨_, ⟨_, G2 _ _ (News.get (by k_asm) (by k_mem)) (by simp; k_ne), rfl, _, rfl⟩, by assumption⟩, len40⟩)); (case qzd => (ktr_room)); (case qzu => (ktr_units)); (intro cv ch ctk cG F9 N9 cO cP; obtain ⟨r9, t9, tk9, n9, cV, r91, r92, cD⟩ := cP; replace N9 := news_put N9 cD (cO _ (List.Mem.head _)); clear cG cO cD; subst cV; (try k_sweep); (try dsimp only); (try k_fold)); )))) | fail) | ((with_reducible show wpAny _ _ (pyIter (Value.ref _)) _ _ _); k_dflt ((((rename News _ _ _ _ => N6); refine' range_T (σ := LS) 4 [Str.ofString "place", Str.ofString "count", Str.ofString "high", Str.ofString "low", Str.ofString "due", Str.ofString "told_own", Str.ofString "found"] (fun st => (dk, W.listOf #[.ref dc, .int st.k st.tk] st.n) :: (PT, tabObj st.ps) :: st.tl) (fun i st => KB st.k (18 + 4 * (i : Int)) ∧ LoopI dk PT _ _ _ dc _ _ _ _ _ _ (Str.ofString "law.<locals>.<lambda>") st.ps st.tl) ⟨_, _, _, _, _⟩ rfl (by assumption) (by decide) rfl (by assumption) N6 ⟨kbL, LI⟩ (fun i9 t9 u9 st9 h9 tk9 I9 oI9 hi9 hP9 off9 F9 N9 => ?_) (fun u9 st9 h9 tk9 hP9 F9 N9 => ?_); rotate_left; (subst hPT); rotate_right)))) | walk1 | (k_end; wrow_close) | (dsimp only; walk1) | (leave1; try dsimp only) | (dsimp only) | fail "no step"))
    obtain ⟨ks, tks, ns, pt, tl⟩ := st9
    dsimp only at hP9 off9 N9
    obtain ⟨hkb, hLI⟩ := hP9
    have kbT := KB.turn0 hkb hi9
    obtain ⟨SV, SI, SS9, SD, SC, A1, A2, -, TS⟩ := id hLI
    have m6 := SC _ (.head _)
    have m5 := SC _ (.tail _ (.head _))
    have m4 := SC _ (.tail _ (.tail _ (.head _)))
    have m3 := SC _ (.tail _ (.tail _ (.tail _ (.head _))))
    have m2 := SC _ (.tail _ (.tail _ (.tail _ (.tail _ (.head _)))))
    have m1 := SC _ (.tail _ (.tail _ (.tail _ (.tail _ (.tail _ (.head _))))))
    obtain ⟨N8, A0, AI, n1, n2, n3⟩ := turn_in N9 off9 hdk9 A1
    clear N9 off9 N6 LI kbL
    (repeat' ((fail_if_success (with_reducible show wpAny _ _ (exec (Stmt.Assign _ _ ⟨706, _, _, _⟩) _) _ _ _)); first | fail "unf" | ((with_reducible show GoodW _ _ _ _ _ _ _); first | ((k_dflt (refine' goodW_bool ?qzg1 ?qzg2 ?qzg3 ?qzg4 ?qzg5; (case qzg1 => k_asm); (case qzg2 => k_asm); (case qzg3 => (intro _; kernel_rfl!)); (case qzg4 => kernel_rfl!); (case qzg5 => first | rfl | kernel_rfl!); ))) | fail) | ((with_reducible show wpAny _ _ (eval (Expr.Name _ _) _) _ _ _); first | ((k_here; first | ((with_reducible show wpAny _ _ (eval (Expr.Name _ _) (compEnvC _ _ _ _)) _ _ _); k_dflt (first | (refine' kcf_cell ?qzN ?qzc ?qzm ?qzd ?_ ?qza ?qzb; (case qza => rfl); (case qzb => rfl); (case qzN => k_asm); (case qzc => rfl); (case qzm => fail "mine mem2"); (case qzd => k_asm); k_whole) | (refine' LCgL.ld_own ?qza ?qzb ?qzc ?qzd ?_; (case qza => k_asm); (case qzb => k_mem); (case qzc => assumption); (case qzd => assumption); k_whole) | (refine' LCgL.ld_global ?qza ?qzb ?qzc ?qzd ?_; (case qza => k_asm); (case qzb => k_asm); (case qzc => k_asm); (case qzd => k_is); k_whole) | (refine' LCgL.ld_built ?qza ?qzb ?qzc ?qzd ?qze ?qzf ?_; (case qza => k_asm); (case qzb => k_asm); (case qzc => k_asm); (case qzd => k_is); (case qze => boot_by_name); (case qzf => decide); k_whole))) | k_dflt (first | (refine' name_L ?qzF ?qzv ?qzo ?_; (case qzo => decide +kernel); (case qzF => k_asm); (case qzv => rfl); k_whole) | (refine' name_G ?qzF ?qzX ?qzT ?qze ?qzo ?_; (case qzo => decide +kernel); (case qzF => k_asm); (case qzX => k_asm); (case qzT => k_asm); (case qze => k_is); k_whole) | (refine' name_C ?qzN ?qzc ?qzm ?qzd ?qzo ?_; (case qzo => decide +kernel); (case qzN => k_asm); (case qzc => rfl); (case qzm => fail "mine mem2"); (case qzd => k_asm); k_whole) | (refine' name_I ?qzF ?qzX ?qzT ?qze ?qzv ?qzn ?qzo ?_; (case qzo => decide +kernel); (case qzF => k_asm); (case qzX => k_asm); (case qzT => k_asm); (case qze => k_is); (case qzv => boot_fast); (case qzn => decide); k_whole)))) | ((k_here; (with_reducible show wpAny _ _ (eval (Expr.Name _ _) (compEnvC _ _ _ _)) _ _ _); k_dflt (refine' kcf_cell ?qN ?qc ?qm ?qd ?_ ?qa ?qb; (case qa => rfl); (case qb => rfl); (case qN => k_asm); (case qc => rfl); (case qm => fail "mine mem2"); (case qd => k_asm); k_whole))) | ((k_here; k_dflt (refine' nameX_G ?qF ?qc ?qg ?qd ?_ ?qa ?qb; (case qa => rfl); (case qb => rfl); (case qF => k_asm); (case qc => rfl); (case qg => first | exact g6 | exact g5 | exact g4 | exact g3 | exact g2 | exact g1); (case qd => k_asm); k_whole))) | ((k_here; k_dflt (refine' nameX_C ?qN ?qc ?qm ?qd ?_ ?qa ?qb; (case qa => rfl); (case qb => rfl); (case qN => k_asm); (case qc => rfl); (case qm => fail "mine mem2"); (case qd => k_asm); k_whole))) | fail) | ((with_reducible show wpAny _ _ (callWith _ (Value.ref _) _ _ _) _ _ _); first | ((k_here; k_dflt (first | (refine' callWith_K ?qk1 ?qk2 ?_; (case qk1 => k_asm); (case qk2 => k_is); k_whole) | (refine' callWith_K0F ?qk0 ?qk1 ?qk2 ?_; (case qk0 => k_asm); (case qk1 => k_asm); (case qk2 => k_is); k_whole) | (refine' callWith_KW ?qk1 ?qk2 ?qk3 ?_; (case qk1 => k_asm); (case qk2 => k_is); (case qk3 => exact rfl); k_whole) | (refine' callWith_KW0 ?qk1 ?qk2 ?qk3 ?_; (case qk1 => k_asm); (case qk2 => k_is); (case qk3 => exact rfl); k_whole)))) | ((k_here; k_dflt (refine' callWith_K ?qk1 ?qk2 ?_; (case qk1 => k_asm); (case qk2 => k_is); k_whole))) | fail) | ((with_reducible show EndX _ _ _ _ _ _ _); first | ((k_dflt ((refine' jt_out ?qjF ?qjN AA n1 n2 ?qjm ⟨KB.four hkb, LoopI.up hLI ?qjs AA.1 AA.2.2 (TabSt.up TS ?qjt)⟩; (case qjF => k_asm); (case qjN => first | k_asm | exact drop1 (by k_asm) | exact drop1 (drop1 (by k_asm)) | exact drop1 (drop1 (drop1 (by k_asm))) | exact drop1 (drop1 (drop1 (drop1 (by k_asm)))) | exact drop1 (drop1 (drop1 (drop1 (drop1 (by k_asm)))))); (case qjm => ((intro z h1 h2; (try dsimp +zetaDelta only); (simp only [List.contains_cons, List.contains_nil, Bool.or_false, Bool.or_eq_false_iff, beq_eq_false_iff_ne, ne_eq] at h1 h2); (simp [h1, h2]; done)))); (case qjs => fail "mine sub"); (case qjt => fail "mine sub"))))) | fail) | ((with_reducible show wpAny _ _ (compareOp CmpOp.NotEq _ _) _ _ _); first | ((k_here; k_dflt ((refine ne_find (FindIn.at (reS (by assumption) (by assumption)) (by k_asm) (by fail "mine sub")) (FindIn.at (by assumption) (by k_asm) (by fail "mine sub")) (by ktr_units) ?_)))) | fail) | ((with_reducible show wpAny _ _ (compareOp CmpOp.NotEq (Value.ref _) (Value.ref _)) _ _ _); first | ((k_here; (with_reducible show wpAny _ _ (compareOp CmpOp.NotEq (Value.ref _) (Value.ref _)) _ _ _); k_dflt ((refine ne_finds (by k_asm) (by fail "mine mem2") (by fail "mine mem2") rfl rfl rfl rfl VT hf9 (by fail "mine sub") (by fail "mine sub") (by ktr_units) ?_)))) | fail) | ((with_reducible show LCg.CompSrc _ _ _ _ _ _ _ _ _ _ _ _ _ _); first | ((k_here; k_dflt (((rename News _ _ _ _ => lN'); (refine LCg.CompSrc.ledger (by rfl) (by k_asm) lN' (by fail "mine mem2") (Nat.le_of_ble_eq_true rfl) ?_; intro g'; refine comp_moved' VT VD (fun i9 o9 v9 ys9 fs9 I' oI' C' oC' D' m' h' tk' E' ho9 hv9 hI9 hC' hx' F' N' off9 ne' => ?_) (fun ys9 fs9 hf9 => ?_)))); (all_goals (try k_fold)))) | fail) | ((with_reducible show wpAny _ _ (eval (Expr.Lambda _ _ _ _) _) _ _ _); first | ((k_here; k_dflt (((refine' kla_eval ?qd0 ?_; (case qd0 => exact rfl)); (refine' lam_come ?qF ?qN ?qT ?qC ?qcd (rem5 nT nD hdk9 n1 AA.2.2) TS ?qhq ?qcl ?_; (case qF => k_asm); (case qN => k_asm); (case qT => k_asm); (case qcd => exact rfl); (case qC => (rw [hPT]; kn_code)); (case qhq => first | exact rfl | decide +kernel); (case qcl => exact rfl)); (intro f9 c9 ctv9 pt9 ls h' tk' F9 N9 cK cP cN mf SR TS9; replace AA := up3L AA cN cP (by fail "mine mem2") (by fail "mine mem2"); replace aT := aT_up (o' := tabObj pt9) aT cN (by fail "mine mem2"); replace N9 := ins5 cK (rot5 N9); clear cK cP cN; replace TS := TS9); (try k_sweep); (try dsimp only); (try k_fold))))) | fail) | ((with_reducible show wpAny _ _ (call (Value.builtin "list.append") _) _ _ _); first | ((k_here; (with_reducible show wpAny _ _ (call (Value.builtin _) [Value.ref _, _]) _ _ _); k_dflt (((refine' append_K ?qk1 ?qk2 ?qk3 ?_ ?qz; (case qk1 => k_asm); (case qk2 => k_asm); (case qk3 => first | exact Upd.head (AllNe.all aT) | exact Upd.head (AllNe.all aD)); (case qz => exact Nat.le_of_ble_eq_true rfl); k_whole); intro h' F' N'; (try k_sweep))))) | fail) | ((with_reducible show wpAny _ _ (call (Value.builtin "len") _) _ _ _); first | ((k_here; (with_reducible show wpAny _ _ (call (Value.builtin "len") [Value.str _ _]) _ _ _); k_dflt (first | refine len_text b8 (by decide) ?_ | refine len_text b7 (by decide) ?_))) | fail) | ((with_reducible show wpAny _ _ (call (Value.type _) [Value.ref _]) _ _ _); first | ((k_here; (with_reducible show wpAny _ _ (call (Value.type _) [Value.ref _]) _ _ _); k_dflt (refine' list_ofLst ?qF ?qN ?qb ?qi ?ql ?qz ?_; (case qF => k_asm); (case qN => k_asm); (case qb => k_mem); (case qi => assumption); (case ql => assumption); (case qz => decide)); intro D' c' h' F' N' l1; (try k_lt l1); (try k_sweep))) | fail) | ((with_reducible show LCg.CompEnd _ _ _ _ _ _ _ _ _ _ _ _ _ _); first | ((k_here; k_dflt (refine keep_end (by k_asm) N' off' trivial (OrdR.step hi' hc' (by rfl))))) | fail) | ((with_reducible show TxtSrc _ _ _ _ _ _ _ _ _ _ _ _ _ _); first | ((k_here; k_dflt (((rename News _ _ _ _ => lN'); (refine ⟨_, _, _, rfl, rfl, by k_asm, lN', by exact txt_size (by assumption) (by decide), fun g' => comp_ords (fun i' c' ys' u' I' oI' C' oC' D' m' h' tk' E' hc' hm' hi' hC' hx' F' N' off' ne' => ?_) (fun ys' hy' => ?_)⟩))))) | fail) | ((with_reducible show wpAny _ _ (call (Value.builtin "str.join") _) _ _ _); first | ((k_here; first | (k_dflt (refine' join_drawn ?qk1 hR7 ?qk2 ?_; (case qk1 => exact News.isList (by k_asm) (by k_mem)); (case qk2 => exact len_r (by assumption) (by assumption) (by decide))); intro _ _) | (k_dflt (refine' join_drawn ?qk1 hR8 ?qk2 ?_; (case qk1 => exact News.isList (by k_asm) (by k_mem)); (case qk2 => exact len_r (by assumption) (by assumption) (by decide))); intro _ _) | fail)) | fail) | ((with_reducible show wpAny _ _ (call (Value.ref _) _) _ _ _); first | ((k_here; (first | (with_reducible show wpAny _ _ (call (Value.ref 795) _) _ _ _) | (with_reducible show wpAny _ _ (call (Value.ref 626) _) _ _ _)); k_dflt (refine' call_cls ?qk1 ?qk2 ?qk3 ?qk4 ?qk5 ?qk6 ?_; (case qk1 => k_asm); (case qk2 => k_asm); (case qk3 => k_asm); (case qk4 => k_is); (case qk5 => k_is); (case qk6 => k_is); k_whole; intro x' d' h' F' N' l1 l2; (try k_lt l1); (try k_lt2 l2); (try k_sweep); k_enter; ))) | ((k_here; (with_reducible show wpAny _ _ (call (Value.ref 672) _) _ _ _); k_dflt (((fail "fq"; refine' CtP.use (match_seg hR7 hiQ hy' b7 b8 ?qzs1 ?qzs2 _ _ _ _ _) ?qzB ?qzF ?qzX ?qzN ?qzT ?qzK1 ?qzK ?qzp ?qzd ?qzu ?_); ((((case qzB => k_asm); (case qzF => k_asm); (case qzX => k_asm); (case qzN => k_asm); (case qzT => k_asm); (case qzK1 => first | exact rfl | assumption); (case qzK => first | exact rfl | assumption)))); (case qzs1 => assumption); (case qzs2 => assumption); (case qzp => exact ⟨ints_at (by k_asm) (by fail "mine mem2") hiQ, ints_at (by k_asm) (by fail "mine mem2") hy'⟩); (case qzd => ktr_room); (case qzu => ktr_units); ((((intro cv ch ctk cS F9 N9 cl cL cP; obtain ⟨fs, cf, cK, cN⟩ := PF.come (by k_asm) (by k_asm) cP; clear cP cS cl cL; (replace AA := up3 AA cN (by fail "mine mem2") (by fail "mine mem2") (by fail "mine mem2")); (try (replace aD := AllNe.ins3 aD (cN (du, _) (by fail "mine mem2")))); (try (replace aT := AllNe.ins4 aT (cN (td, _) (by fail "mine mem2")))); (first | (replace N9 := ins8 cK N9) | (replace N9 := ins7 cK N9) | (replace N9 := ins6 cK N9) | (replace N9 := ins5 cK N9) | (replace N9 := ins4 cK N9) | (replace N9 := ins3 cK N9)); clear cK cN); (try k_sweep); (try dsimp only); (try k_fold)))))))) | ((k_here; (with_reducible show wpAny _ _ (call (Value.ref 679) _) _ _ _); k_dflt (((fail "fq"; refine' CtP.use (quote_seg SI hR7 b7 _) ?qzB ?qzF ?qzX ?qzN ?qzT ?qzK1 ?qzK ?qzp ?qzd ?qzu ?_); ((((case qzB => k_asm); (case qzF => k_asm); (case qzX => k_asm); (case qzN => k_asm); (case qzT => k_asm); (case qzK1 => first | exact rfl | assumption); (case qzK => first | exact rfl | assumption)))); (case qzp => exact SegP.use SI (by k_asm) (by fail "mine sub")); (case qzd => ktr_room); (case qzu => ktr_units); (intro cv ch ctk cS F9 N9 cl cL cP; obtain ⟨lQ, wsQ, nQ, cV, cQ, hiQ, cR⟩ := cP; obtain ⟨NS, dQ⟩ := fresh_onto (by k_asm) (by k_asm) N9 cQ cR; clear cl cL cS cQ cR N9; subst cV; (try k_sweep); (try dsimp only); (try k_fold)))))) | ((k_here; (with_reducible show wpAny _ _ (call (Value.ref 833) _) _ _ _); k_dflt (((fail "fq"; refine' CtP.use (law_moved_c _ _ o9 _ _) ?qzB ?qzF ?qzX ?qzN ?qzT ?qzK1 ?qzK ?qzp ?qzd ?qzu ?_); ((((case qzB => k_asm); (case qzF => k_asm); (case qzX => k_asm); (case qzN => k_asm); (case qzT => k_asm); (case qzK1 => first | exact rfl | assumption); (case qzK => first | exact rfl | assumption)))); (case qzp => exact FindIn.at hv9 (by k_asm) (by fail "mine sub")); (case qzd => ktr_room); (case qzu => ktr_units); (intro cv ch ctk cS F9 N9 cl cL cP; exact moved_end (by k_asm) F9 (by k_asm) N9 off9 cP ho9 hI9 (fun fs => src_at (by fail "mine mem2") fs)))))) | ((k_here; (with_reducible show wpAny _ _ (call (Value.ref 651) _) _ _ _); k_dflt (((fail "fq"; refine' CtP.use (searchB_seg SV SI _ _ _ _ _ _) ?qzB ?qzF ?qzX ?qzN ?qzT ?qzK1 ?qzK ?qzp ?qzd ?qzu ?_); ((((case qzB => k_asm); (case qzF => k_asm); (case qzX => k_asm); (case qzN => k_asm); (case qzT => k_asm); (case qzK1 => first | exact rfl | assumption); (case qzK => first | exact rfl | assumption)))); (case qzp => exact pre_lam hp (Fr.keep (by k_asm)) SV SI psl (by exact strongP h91 h92 b8 (by assumption) (by assumption)) (by exact strongB (by assumption) (by assumption))); (case qzd => ktr_room); (case qzu => ktr_units); (intro cv ch ctk cS F9 N9 cl cL cP; exact hret _ _ _ (Fr.keep F9) (PF.back (Fr.keep (by k_asm)) cP)))))) | ((k_here; (with_reducible show wpAny _ _ (call (Value.ref 644) _) _ _ _); k_dflt (((fail "fq"; refine' CtP.use (searchF_seg SV SI _ _ _ _ _ _) ?qzB ?qzF ?qzX ?qzN ?qzT ?qzK1 ?qzK ?qzp ?qzd ?qzu ?_); ((((case qzB => k_asm); (case qzF => k_asm); (case qzX => k_asm); (case qzN => k_asm); (case qzT => k_asm); (case qzK1 => first | exact rfl | assumption); (case qzK => first | exact rfl | assumption)))); (case qzp => exact pre_lam hp (Fr.keep (by k_asm)) SV SI psl (by exact strongP h91 h92 b8 (by assumption) (by assumption)) (by exact strongN b8 (by assumption) (by assumption))); (case qzd => ktr_room); (case qzu => ktr_units); (intro cv ch ctk cS F9 N9 cl cL cP; exact hret _ _ _ (Fr.keep F9) (PF.back (Fr.keep (by k_asm)) cP)))))) | ((k_here; (with_reducible show wpAny _ _ (call (Value.ref 651) _) _ _ _); k_dflt (((fail "fq"; refine' CtP.use (searchB_seg SV SI _ _ _ _ _ _) ?qzB ?qzF ?qzX ?qzN ?qzT ?qzK1 ?qzK ?qzp ?qzd ?qzu ?_); ((((case qzB => k_asm); (case qzF => k_asm); (case qzX => k_asm); (case qzN => k_asm); (case qzT => k_asm); (case qzK1 => first | exact rfl | assumption); (case qzK => first | exact rfl | assumption)))); (case qzp => exact pre_search SV SI (by k_asm) (by fail "mine sub") psl (by exact rng_ok (by assumption) (by assumption) (by decide) b8 (by assumption) (by assumption)) (by exact rng_ok (by assumption) (by assumption) (by decide) b8 (by assumption) (by assumption))); (case qzd => ktr_room); (case qzu => ktr_units); ((((intro cv ch ctk cS F9 N9 cl cL cP; obtain ⟨fs, cf, cK, cN⟩ := PF.come (by k_asm) (by k_asm) cP; clear cP cS cl cL; (replace AA := up3 AA cN (by fail "mine mem2") (by fail "mine mem2") (by fail "mine mem2")); (try (replace aD := AllNe.ins3 aD (cN (du, _) (by fail "mine mem2")))); (try (replace aT := AllNe.ins4 aT (cN (td, _) (by fail "mine mem2")))); (first | (replace N9 := ins8 cK N9) | (replace N9 := ins7 cK N9) | (replace N9 := ins6 cK N9) | (replace N9 := ins5 cK N9) | (replace N9 := ins4 cK N9) | (replace N9 := ins3 cK N9)); clear cK cN); (try k_sweep); (try dsimp only); (try k_fold)))))))) | ((k_here; (with_reducible show wpAny _ _ (call (Value.ref 644) _) _ _ _); k_dflt (((fail "fq"; refine' CtP.use (searchF_seg SV SI _ _ _ _ _ _) ?qzB ?qzF ?qzX ?qzN ?qzT ?qzK1 ?qzK ?qzp ?qzd ?qzu ?_); ((((case qzB => k_asm); (case qzF => k_asm); (case qzX => k_asm); (case qzN => k_asm); (case qzT => k_asm); (case qzK1 => first | exact rfl | assumption); (case qzK => first | exact rfl | assumption)))); (case qzp => exact pre_search SV SI (by k_asm) (by fail "mine sub") psl (by exact rng_ok (by assumption) (by assumption) (by decide) b8 (by assumption) (by assumption)) (by exact rng_ok (by assumption) (by assumption) (by decide) b8 (by assumption) (by assumption))); (case qzd => ktr_room); (case qzu => ktr_units); ((((intro cv ch ctk cS F9 N9 cl cL cP; obtain ⟨fs, cf, cK, cN⟩ := PF.come (by k_asm) (by k_asm) cP; clear cP cS cl cL; (replace AA := up3 AA cN (by fail "mine mem2") (by fail "mine mem2") (by fail "mine mem2")); (try (replace aD := AllNe.ins3 aD (cN (du, _) (by fail "mine mem2")))); (try (replace aT := AllNe.ins4 aT (cN (td, _) (by fail "mine mem2")))); (first | (replace N9 := ins8 cK N9) | (replace N9 := ins7 cK N9) | (replace N9 := ins6 cK N9) | (replace N9 := ins5 cK N9) | (replace N9 := ins4 cK N9) | (replace N9 := ins3 cK N9)); clear cK cN); (try k_sweep); (try dsimp only); (try k_fold)))))))) | ((k_here; (with_reducible show wpAny _ _ (call (Value.ref 828) _) _ _ _); k_dflt (((fail "fq"; refine' CtP.use (often_seg SS9 _ _ _ _ _ _ _ _ _ ?qzs1) ?qzB ?qzF ?qzX ?qzN ?qzT ?qzK1 ?qzK ?qzp ?qzd ?qzu ?_); ((((case qzB => k_asm); (case qzF => k_asm); (case qzX => k_asm); (case qzN => k_asm); (case qzT => k_asm); (case qzK1 => first | exact rfl | assumption); (case qzK => first | exact rfl | assumption)))); (case qzs1 => first | exact cnt_ok (by assumption) (by assumption) | exact cnt_ok' (by assumption) (by assumption)); (case qzp => exact ⟨SegP.use SS9 (by k_asm) (by fail "mine sub"), ssl⟩); (case qzd => ktr_room); (case qzu => ktr_units); ((((intro cv ch ctk cS F9 N9 cl cL cP; obtain ⟨fs, cf, cK, cN⟩ := PF.come (by k_asm) (by k_asm) cP; clear cP cS cl cL; (replace AA := up3 AA cN (by fail "mine mem2") (by fail "mine mem2") (by fail "mine mem2")); (try (replace aD := AllNe.ins3 aD (cN (du, _) (by fail "mine mem2")))); (try (replace aT := AllNe.ins4 aT (cN (td, _) (by fail "mine mem2")))); (first | (replace N9 := ins8 cK N9) | (replace N9 := ins7 cK N9) | (replace N9 := ins6 cK N9) | (replace N9 := ins5 cK N9) | (replace N9 := ins4 cK N9) | (replace N9 := ins3 cK N9)); clear cK cN); (try k_sweep); (try dsimp only); (try k_fold)))))))) | ((k_here; (with_reducible show wpAny _ _ (call (Value.ref 821) _) _ _ _); k_dflt (((fail "fq"; refine' CtP.use (back_seg SS9 _ _ _ _ _ _ _) ?qzB ?qzF ?qzX ?qzN ?qzT ?qzK1 ?qzK ?qzp ?qzd ?qzu ?_); ((((case qzB => k_asm); (case qzF => k_asm); (case qzX => k_asm); (case qzN => k_asm); (case qzT => k_asm); (case qzK1 => first | exact rfl | assumption); (case qzK => first | exact rfl | assumption)))); (case qzp => exact ⟨SegP.use SS9 (by k_asm) (by fail "mine sub"), ssl⟩); (case qzd => ktr_room); (case qzu => ktr_units); ((((intro cv ch ctk cS F9 N9 cl cL cP; obtain ⟨fs, cf, cK, cN⟩ := PF.come (by k_asm) (by k_asm) cP; clear cP cS cl cL; (replace AA := up3 AA cN (by fail "mine mem2") (by fail "mine mem2") (by fail "mine mem2")); (try (replace aD := AllNe.ins3 aD (cN (du, _) (by fail "mine mem2")))); (try (replace aT := AllNe.ins4 aT (cN (td, _) (by fail "mine mem2")))); (first | (replace N9 := ins8 cK N9) | (replace N9 := ins7 cK N9) | (replace N9 := ins6 cK N9) | (replace N9 := ins5 cK N9) | (replace N9 := ins4 cK N9) | (replace N9 := ins3 cK N9)); clear cK cN); (try k_sweep); (try dsimp only); (try k_fold)))))))) | ((k_here; (with_reducible show wpAny _ _ (call (Value.ref 816) _) _ _ _); k_dflt (((fail "fq"; refine' CtP.use (ahead_seg SS9 _ _ _ _ _ _ _) ?qzB ?qzF ?qzX ?qzN ?qzT ?qzK1 ?qzK ?qzp ?qzd ?qzu ?_); ((((case qzB => k_asm); (case qzF => k_asm); (case qzX => k_asm); (case qzN => k_asm); (case qzT => k_asm); (case qzK1 => first | exact rfl | assumption); (case qzK => first | exact rfl | assumption)))); (case qzp => exact ⟨SegP.use SS9 (by k_asm) (by fail "mine sub"), ssl⟩); (case qzd => ktr_room); (case qzu => ktr_units); ((((intro cv ch ctk cS F9 N9 cl cL cP; obtain ⟨fs, cf, cK, cN⟩ := PF.come (by k_asm) (by k_asm) cP; clear cP cS cl cL; (replace AA := up3 AA cN (by fail "mine mem2") (by fail "mine mem2") (by fail "mine mem2")); (try (replace aD := AllNe.ins3 aD (cN (du, _) (by fail "mine mem2")))); (try (replace aT := AllNe.ins4 aT (cN (td, _) (by fail "mine mem2")))); (first | (replace N9 := ins8 cK N9) | (replace N9 := ins7 cK N9) | (replace N9 := ins6 cK N9) | (replace N9 := ins5 cK N9) | (replace N9 := ins4 cK N9) | (replace N9 := ins3 cK N9)); clear cK cN); (try k_sweep); (try dsimp only); (try k_fold)))))))) | ((k_here; (with_reducible show wpAny _ _ (call (Value.ref 806) _) _ _ _); k_dflt (((fail "fq"; refine' CtM.useR (draw_seg SD _ dk _ _ _ _ _ (KB.ok kbT ?qzs2) ?qzs3) ?qzB ?qzF ?qzX ?qzN ?qzT ?qzK1 ?qzK (Rems.cons (Rem.head (AllNe.all A0)) Rems.nil) ?qzp ?qzd ?qzu ?_); (case qzB => (k_asm)); (case qzF => (k_asm)); (case qzX => (k_asm)); (case qzN => (first | k_asm | exact drop1 (by k_asm))); (case qzT => (k_asm)); (case qzK1 => (first | exact rfl | assumption)); (case qzK => (first | exact rfl | assumption)); (case qzs2 => decide); (case qzs3 => first | exact ⟨by decide, by decide⟩ | exact many_ok' b8 (by decide) (by decide)); (case qzp => (intro g2 G2 S2; have z9 := SegP.onG SD (by k_asm) (by first | fail "mine sub" | fail) A1 G2; exact ⟨z9, len40⟩)); (case qzd => (ktr_room)); (case qzu => (ktr_units)); (intro cv ch ctk cG F9 N9 cO cP; obtain ⟨r9, t9, tk9, n9, cV, r91, r92, cD⟩ := cP; replace N9 := news_put N9 cD (cO _ (List.Mem.head _)); replace kbT := KB.succ kbT; clear cG cO cD; subst cV; (try k_sweep); (try dsimp only); (try k_fold)))))) | ((k_here; (with_reducible show wpAny _ _ (call (Value.ref 811) _) _ _ _); k_dflt (((fail "fq"; refine' CtP.use (stands_c _ _ _ _ _ _ (str_len b8) (str_len b7)) ?qzB ?qzF ?qzX ?qzN ?qzT ?qzK1 ?qzK trivial ?qzd ?qzu ?_); (case qzB => k_asm); (case qzF => k_asm); (case qzX => k_asm); (case qzN => k_asm); (case qzT => k_asm); (case qzK1 => first | exact rfl | assumption); (case qzK => first | exact rfl | assumption); (case qzd => ktr_room); (case qzu => ktr_units); (intro cv ch ctk cS F9 N9 cl cL cP; obtain ⟨lS, wsS, nS, cV, cQ, hiS, cR⟩ := cP; obtain ⟨NS, dS⟩ := fresh_onto (by k_asm) (by k_asm) N9 cQ cR; clear cl cL cS cQ cR N9; subst cV; (try k_sweep); (try dsimp only); (try k_fold)))))) | ((k_here; (with_reducible show wpAny _ _ (call (Value.ref 806) _) _ _ _); k_dflt (((fail "fq"; refine' CtM.useR (draw_c _ _ _ _ _ _ _ _ _ (KB.ok ?qzs1 ?qzs2) ⟨?qzs3, ?qzs4⟩) ?qzB ?qzF ?qzX ?qzN ?qzT ?qzK1 ?qzK ?qzR ?qzp ?qzd ?qzu ?_); (case qzB => (k_asm)); (case qzF => (k_asm)); (case qzX => (k_asm)); (case qzN => (k_asm)); (case qzT => (k_asm)); (case qzK1 => (first | exact rfl | assumption)); (case qzK => (first | exact rfl | assumption)); (case qzR => (fail "mine rems")); (case qzs1 => (fail "mine kb")); (case qzs2 => decide); (case qzs3 => first | decide | omega); (case qzs4 => first | decide | omega); (case qzp => (intro g2 G2 S2; exact ⟨⟨_, ⟨_, G2 _ _ (News.get (by k_asm) (by k_mem)) (by simp; k_ne), rfl, _, rfl⟩, by assumption⟩, len40⟩)); (case qzd => (ktr_room)); (case qzu => (ktr_units)); (intro cv ch ctk cG F9 N9 cO cP; obtain ⟨r9, t9, tk9, n9, cV, r91, r92, cD⟩ := cP; replace N9 := news_put N9 cD (cO _ (List.Mem.head _)); clear cG cO cD; subst cV; (try k_sweep); (try dsimp only); (try k_fold)); )))) | fail) | ((with_reducible show wpAny _ _ (pyIter (Value.ref _)) _ _ _); k_dflt ((((rename News _ _ _ _ => N6); refine' range_T (σ := LS) 4 [Str.ofString "place", Str.ofString "count", Str.ofString "high", Str.ofString "low", Str.ofString "due", Str.ofString "told_own", Str.ofString "found"] (fun st => (dk, W.listOf #[.ref dc, .int st.k st.tk] st.n) :: (PT, tabObj st.ps) :: st.tl) (fun i st => KB st.k (18 + 4 * (i : Int)) ∧ LoopI dk PT _ _ _ dc _ _ _ _ _ _ (Str.ofString "law.<locals>.<lambda>") st.ps st.tl) ⟨_, _, _, _, _⟩ rfl (by assumption) (by decide) rfl (by assumption) N6 ⟨kbL, LI⟩ (fun i9 t9 u9 st9 h9 tk9 I9 oI9 hi9 hP9 off9 F9 N9 => ?_) (fun u9 st9 h9 tk9 hP9 F9 N9 => ?_); rotate_left; (subst hPT); rotate_right)))) | walk1 | (k_end; wrow_close) | (dsimp only; walk1) | (leave1; try dsimp only) | (dsimp only) | fail "no step"))
    (rename News _ _ _ _ => N7)
    have N8 := drop1 N7
    clear N7
    obtain ⟨SS8, ssl⟩ := stands_seg SS9 (drawn_in hR8 (by decide)) (drawn_in hR7 (by decide)) b8
    replace SS9 := SS8
    clear SS8
    have AA := (⟨A1, AI, A2⟩ : AllNe dk tl ∧ AllNe I9 tl ∧ AllNe PT tl)
    (repeat' ((fail_if_success (with_reducible show wpAny _ _ (exec (Stmt.Expr _ ⟨707, _, _, _⟩) _) _ _ _)); first | fail "unf" | ((with_reducible show GoodW _ _ _ _ _ _ _); first | ((k_dflt (refine' goodW_bool ?qzg1 ?qzg2 ?qzg3 ?qzg4 ?qzg5; (case qzg1 => k_asm); (case qzg2 => k_asm); (case qzg3 => (intro _; kernel_rfl!)); (case qzg4 => kernel_rfl!); (case qzg5 => first | rfl | kernel_rfl!); ))) | fail) | ((with_reducible show wpAny _ _ (eval (Expr.Name _ _) _) _ _ _); first | ((k_here; first | ((with_reducible show wpAny _ _ (eval (Expr.Name _ _) (compEnvC _ _ _ _)) _ _ _); k_dflt (first | (refine' kcf_cell ?qzN ?qzc ?qzm ?qzd ?_ ?qza ?qzb; (case qza => rfl); (case qzb => rfl); (case qzN => k_asm); (case qzc => rfl); (case qzm => fail "mine mem2"); (case qzd => k_asm); k_whole) | (refine' LCgL.ld_own ?qza ?qzb ?qzc ?qzd ?_; (case qza => k_asm); (case qzb => k_mem); (case qzc => assumption); (case qzd => assumption); k_whole) | (refine' LCgL.ld_global ?qza ?qzb ?qzc ?qzd ?_; (case qza => k_asm); (case qzb => k_asm); (case qzc => k_asm); (case qzd => k_is); k_whole) | (refine' LCgL.ld_built ?qza ?qzb ?qzc ?qzd ?qze ?qzf ?_; (case qza => k_asm); (case qzb => k_asm); (case qzc => k_asm); (case qzd => k_is); (case qze => boot_by_name); (case qzf => decide); k_whole))) | k_dflt (first | (refine' name_L ?qzF ?qzv ?qzo ?_; (case qzo => decide +kernel); (case qzF => k_asm); (case qzv => rfl); k_whole) | (refine' name_G ?qzF ?qzX ?qzT ?qze ?qzo ?_; (case qzo => decide +kernel); (case qzF => k_asm); (case qzX => k_asm); (case qzT => k_asm); (case qze => k_is); k_whole) | (refine' name_C ?qzN ?qzc ?qzm ?qzd ?qzo ?_; (case qzo => decide +kernel); (case qzN => k_asm); (case qzc => rfl); (case qzm => fail "mine mem2"); (case qzd => k_asm); k_whole) | (refine' name_I ?qzF ?qzX ?qzT ?qze ?qzv ?qzn ?qzo ?_; (case qzo => decide +kernel); (case qzF => k_asm); (case qzX => k_asm); (case qzT => k_asm); (case qze => k_is); (case qzv => boot_fast); (case qzn => decide); k_whole)))) | ((k_here; (with_reducible show wpAny _ _ (eval (Expr.Name _ _) (compEnvC _ _ _ _)) _ _ _); k_dflt (refine' kcf_cell ?qN ?qc ?qm ?qd ?_ ?qa ?qb; (case qa => rfl); (case qb => rfl); (case qN => k_asm); (case qc => rfl); (case qm => fail "mine mem2"); (case qd => k_asm); k_whole))) | ((k_here; k_dflt (refine' nameX_G ?qF ?qc ?qg ?qd ?_ ?qa ?qb; (case qa => rfl); (case qb => rfl); (case qF => k_asm); (case qc => rfl); (case qg => first | exact g6 | exact g5 | exact g4 | exact g3 | exact g2 | exact g1); (case qd => k_asm); k_whole))) | ((k_here; k_dflt (refine' nameX_C ?qN ?qc ?qm ?qd ?_ ?qa ?qb; (case qa => rfl); (case qb => rfl); (case qN => k_asm); (case qc => rfl); (case qm => fail "mine mem2"); (case qd => k_asm); k_whole))) | fail) | ((with_reducible show wpAny _ _ (callWith _ (Value.ref _) _ _ _) _ _ _); first | ((k_here; k_dflt (first | (refine' callWith_K ?qk1 ?qk2 ?_; (case qk1 => k_asm); (case qk2 => k_is); k_whole) | (refine' callWith_K0F ?qk0 ?qk1 ?qk2 ?_; (case qk0 => k_asm); (case qk1 => k_asm); (case qk2 => k_is); k_whole) | (refine' callWith_KW ?qk1 ?qk2 ?qk3 ?_; (case qk1 => k_asm); (case qk2 => k_is); (case qk3 => exact rfl); k_whole) | (refine' callWith_KW0 ?qk1 ?qk2 ?qk3 ?_; (case qk1 => k_asm); (case qk2 => k_is); (case qk3 => exact rfl); k_whole)))) | ((k_here; k_dflt (refine' callWith_K ?qk1 ?qk2 ?_; (case qk1 => k_asm); (case qk2 => k_is); k_whole))) | fail) | ((with_reducible show EndX _ _ _ _ _ _ _); first | ((k_dflt ((refine' jt_out ?qjF ?qjN AA n1 n2 ?qjm ⟨KB.four hkb, LoopI.up hLI ?qjs AA.1 AA.2.2 (TabSt.up TS ?qjt)⟩; (case qjF => k_asm); (case qjN => first | k_asm | exact drop1 (by k_asm) | exact drop1 (drop1 (by k_asm)) | exact drop1 (drop1 (drop1 (by k_asm))) | exact drop1 (drop1 (drop1 (drop1 (by k_asm)))) | exact drop1 (drop1 (drop1 (drop1 (drop1 (by k_asm)))))); (case qjm => ((intro z h1 h2; (try dsimp +zetaDelta only); (simp only [List.contains_cons, List.contains_nil, Bool.or_false, Bool.or_eq_false_iff, beq_eq_false_iff_ne, ne_eq] at h1 h2); (simp [h1, h2]; done)))); (case qjs => fail "mine sub"); (case qjt => fail "mine sub"))))) | fail) | ((with_reducible show wpAny _ _ (compareOp CmpOp.NotEq _ _) _ _ _); first | ((k_here; k_dflt ((refine ne_find (FindIn.at (reS (by assumption) (by assumption)) (by k_asm) (by fail "mine sub")) (FindIn.at (by assumption) (by k_asm) (by fail "mine sub")) (by ktr_units) ?_)))) | fail) | ((with_reducible show wpAny _ _ (compareOp CmpOp.NotEq (Value.ref _) (Value.ref _)) _ _ _); first | ((k_here; (with_reducible show wpAny _ _ (compareOp CmpOp.NotEq (Value.ref _) (Value.ref _)) _ _ _); k_dflt ((refine ne_finds (by k_asm) (by fail "mine mem2") (by fail "mine mem2") rfl rfl rfl rfl VT hf9 (by fail "mine sub") (by fail "mine sub") (by ktr_units) ?_)))) | fail) | ((with_reducible show LCg.CompSrc _ _ _ _ _ _ _ _ _ _ _ _ _ _); first | ((k_here; k_dflt (((rename News _ _ _ _ => lN'); (refine LCg.CompSrc.ledger (by rfl) (by k_asm) lN' (by fail "mine mem2") (Nat.le_of_ble_eq_true rfl) ?_; intro g'; refine comp_moved' VT VD (fun i9 o9 v9 ys9 fs9 I' oI' C' oC' D' m' h' tk' E' ho9 hv9 hI9 hC' hx' F' N' off9 ne' => ?_) (fun ys9 fs9 hf9 => ?_)))); (all_goals (try k_fold)))) | fail) | ((with_reducible show wpAny _ _ (eval (Expr.Lambda _ _ _ _) _) _ _ _); first | ((k_here; k_dflt (((refine' kla_eval ?qd0 ?_; (case qd0 => exact rfl)); (refine' lam_come ?qF ?qN ?qT ?qC ?qcd (rem5 nT nD hdk9 n1 AA.2.2) TS ?qhq ?qcl ?_; (case qF => k_asm); (case qN => k_asm); (case qT => k_asm); (case qcd => exact rfl); (case qC => (rw [hPT]; kn_code)); (case qhq => first | exact rfl | decide +kernel); (case qcl => exact rfl)); (intro f9 c9 ctv9 pt9 ls h' tk' F9 N9 cK cP cN mf SR TS9; replace AA := up3L AA cN cP (by fail "mine mem2") (by fail "mine mem2"); replace aT := aT_up (o' := tabObj pt9) aT cN (by fail "mine mem2"); replace N9 := ins5 cK (rot5 N9); clear cK cP cN; replace TS := TS9); (try k_sweep); (try dsimp only); (try k_fold))))) | fail) | ((with_reducible show wpAny _ _ (call (Value.builtin "list.append") _) _ _ _); first | ((k_here; (with_reducible show wpAny _ _ (call (Value.builtin _) [Value.ref _, _]) _ _ _); k_dflt (((refine' append_K ?qk1 ?qk2 ?qk3 ?_ ?qz; (case qk1 => k_asm); (case qk2 => k_asm); (case qk3 => first | exact Upd.head (AllNe.all aT) | exact Upd.head (AllNe.all aD)); (case qz => exact Nat.le_of_ble_eq_true rfl); k_whole); intro h' F' N'; (try k_sweep))))) | fail) | ((with_reducible show wpAny _ _ (call (Value.builtin "len") _) _ _ _); first | ((k_here; (with_reducible show wpAny _ _ (call (Value.builtin "len") [Value.str _ _]) _ _ _); k_dflt (first | refine len_text b8 (by decide) ?_ | refine len_text b7 (by decide) ?_))) | fail) | ((with_reducible show wpAny _ _ (call (Value.type _) [Value.ref _]) _ _ _); first | ((k_here; (with_reducible show wpAny _ _ (call (Value.type _) [Value.ref _]) _ _ _); k_dflt (refine' list_ofLst ?qF ?qN ?qb ?qi ?ql ?qz ?_; (case qF => k_asm); (case qN => k_asm); (case qb => k_mem); (case qi => assumption); (case ql => assumption); (case qz => decide)); intro D' c' h' F' N' l1; (try k_lt l1); (try k_sweep))) | fail) | ((with_reducible show LCg.CompEnd _ _ _ _ _ _ _ _ _ _ _ _ _ _); first | ((k_here; k_dflt (refine keep_end (by k_asm) N' off' trivial (OrdR.step hi' hc' (by rfl))))) | fail) | ((with_reducible show TxtSrc _ _ _ _ _ _ _ _ _ _ _ _ _ _); first | ((k_here; k_dflt (((rename News _ _ _ _ => lN'); (refine ⟨_, _, _, rfl, rfl, by k_asm, lN', by exact txt_size (by assumption) (by decide), fun g' => comp_ords (fun i' c' ys' u' I' oI' C' oC' D' m' h' tk' E' hc' hm' hi' hC' hx' F' N' off' ne' => ?_) (fun ys' hy' => ?_)⟩))))) | fail) | ((with_reducible show wpAny _ _ (call (Value.builtin "str.join") _) _ _ _); first | ((k_here; first | (k_dflt (refine' join_drawn ?qk1 hR7 ?qk2 ?_; (case qk1 => exact News.isList (by k_asm) (by k_mem)); (case qk2 => exact len_r (by assumption) (by assumption) (by decide))); intro _ _) | (k_dflt (refine' join_drawn ?qk1 hR8 ?qk2 ?_; (case qk1 => exact News.isList (by k_asm) (by k_mem)); (case qk2 => exact len_r (by assumption) (by assumption) (by decide))); intro _ _) | fail)) | fail) | ((with_reducible show wpAny _ _ (call (Value.ref _) _) _ _ _); first | ((k_here; (first | (with_reducible show wpAny _ _ (call (Value.ref 795) _) _ _ _) | (with_reducible show wpAny _ _ (call (Value.ref 626) _) _ _ _)); k_dflt (refine' call_cls ?qk1 ?qk2 ?qk3 ?qk4 ?qk5 ?qk6 ?_; (case qk1 => k_asm); (case qk2 => k_asm); (case qk3 => k_asm); (case qk4 => k_is); (case qk5 => k_is); (case qk6 => k_is); k_whole; intro x' d' h' F' N' l1 l2; (try k_lt l1); (try k_lt2 l2); (try k_sweep); k_enter; ))) | ((k_here; (with_reducible show wpAny _ _ (call (Value.ref 672) _) _ _ _); k_dflt (((fail "fq"; refine' CtP.use (match_seg hR7 hiQ hy' b7 b8 ?qzs1 ?qzs2 _ _ _ _ _) ?qzB ?qzF ?qzX ?qzN ?qzT ?qzK1 ?qzK ?qzp ?qzd ?qzu ?_); ((((case qzB => k_asm); (case qzF => k_asm); (case qzX => k_asm); (case qzN => k_asm); (case qzT => k_asm); (case qzK1 => first | exact rfl | assumption); (case qzK => first | exact rfl | assumption)))); (case qzs1 => assumption); (case qzs2 => assumption); (case qzp => exact ⟨ints_at (by k_asm) (by fail "mine mem2") hiQ, ints_at (by k_asm) (by fail "mine mem2") hy'⟩); (case qzd => ktr_room); (case qzu => ktr_units); ((((intro cv ch ctk cS F9 N9 cl cL cP; obtain ⟨fs, cf, cK, cN⟩ := PF.come (by k_asm) (by k_asm) cP; clear cP cS cl cL; (replace AA := up3 AA cN (by fail "mine mem2") (by fail "mine mem2") (by fail "mine mem2")); (try (replace aD := AllNe.ins3 aD (cN (du, _) (by fail "mine mem2")))); (try (replace aT := AllNe.ins4 aT (cN (td, _) (by fail "mine mem2")))); (first | (replace N9 := ins8 cK N9) | (replace N9 := ins7 cK N9) | (replace N9 := ins6 cK N9) | (replace N9 := ins5 cK N9) | (replace N9 := ins4 cK N9) | (replace N9 := ins3 cK N9)); clear cK cN); (try k_sweep); (try dsimp only); (try k_fold)))))))) | ((k_here; (with_reducible show wpAny _ _ (call (Value.ref 679) _) _ _ _); k_dflt (((fail "fq"; refine' CtP.use (quote_seg SI hR7 b7 _) ?qzB ?qzF ?qzX ?qzN ?qzT ?qzK1 ?qzK ?qzp ?qzd ?qzu ?_); ((((case qzB => k_asm); (case qzF => k_asm); (case qzX => k_asm); (case qzN => k_asm); (case qzT => k_asm); (case qzK1 => first | exact rfl | assumption); (case qzK => first | exact rfl | assumption)))); (case qzp => exact SegP.use SI (by k_asm) (by fail "mine sub")); (case qzd => ktr_room); (case qzu => ktr_units); (intro cv ch ctk cS F9 N9 cl cL cP; obtain ⟨lQ, wsQ, nQ, cV, cQ, hiQ, cR⟩ := cP; obtain ⟨NS, dQ⟩ := fresh_onto (by k_asm) (by k_asm) N9 cQ cR; clear cl cL cS cQ cR N9; subst cV; (try k_sweep); (try dsimp only); (try k_fold)))))) | ((k_here; (with_reducible show wpAny _ _ (call (Value.ref 833) _) _ _ _); k_dflt (((fail "fq"; refine' CtP.use (law_moved_c _ _ o9 _ _) ?qzB ?qzF ?qzX ?qzN ?qzT ?qzK1 ?qzK ?qzp ?qzd ?qzu ?_); ((((case qzB => k_asm); (case qzF => k_asm); (case qzX => k_asm); (case qzN => k_asm); (case qzT => k_asm); (case qzK1 => first | exact rfl | assumption); (case qzK => first | exact rfl | assumption)))); (case qzp => exact FindIn.at hv9 (by k_asm) (by fail "mine sub")); (case qzd => ktr_room); (case qzu => ktr_units); (intro cv ch ctk cS F9 N9 cl cL cP; exact moved_end (by k_asm) F9 (by k_asm) N9 off9 cP ho9 hI9 (fun fs => src_at (by fail "mine mem2") fs)))))) | ((k_here; (with_reducible show wpAny _ _ (call (Value.ref 651) _) _ _ _); k_dflt (((fail "fq"; refine' CtP.use (searchB_seg SV SI _ _ _ _ _ _) ?qzB ?qzF ?qzX ?qzN ?qzT ?qzK1 ?qzK ?qzp ?qzd ?qzu ?_); ((((case qzB => k_asm); (case qzF => k_asm); (case qzX => k_asm); (case qzN => k_asm); (case qzT => k_asm); (case qzK1 => first | exact rfl | assumption); (case qzK => first | exact rfl | assumption)))); (case qzp => exact pre_lam hp (Fr.keep (by k_asm)) SV SI psl (by exact strongP h91 h92 b8 (by assumption) (by assumption)) (by exact strongB (by assumption) (by assumption))); (case qzd => ktr_room); (case qzu => ktr_units); (intro cv ch ctk cS F9 N9 cl cL cP; exact hret _ _ _ (Fr.keep F9) (PF.back (Fr.keep (by k_asm)) cP)))))) | ((k_here; (with_reducible show wpAny _ _ (call (Value.ref 644) _) _ _ _); k_dflt (((fail "fq"; refine' CtP.use (searchF_seg SV SI _ _ _ _ _ _) ?qzB ?qzF ?qzX ?qzN ?qzT ?qzK1 ?qzK ?qzp ?qzd ?qzu ?_); ((((case qzB => k_asm); (case qzF => k_asm); (case qzX => k_asm); (case qzN => k_asm); (case qzT => k_asm); (case qzK1 => first | exact rfl | assumption); (case qzK => first | exact rfl | assumption)))); (case qzp => exact pre_lam hp (Fr.keep (by k_asm)) SV SI psl (by exact strongP h91 h92 b8 (by assumption) (by assumption)) (by exact strongN b8 (by assumption) (by assumption))); (case qzd => ktr_room); (case qzu => ktr_units); (intro cv ch ctk cS F9 N9 cl cL cP; exact hret _ _ _ (Fr.keep F9) (PF.back (Fr.keep (by k_asm)) cP)))))) | ((k_here; (with_reducible show wpAny _ _ (call (Value.ref 651) _) _ _ _); k_dflt (((fail "fq"; refine' CtP.use (searchB_seg SV SI _ _ _ _ _ _) ?qzB ?qzF ?qzX ?qzN ?qzT ?qzK1 ?qzK ?qzp ?qzd ?qzu ?_); ((((case qzB => k_asm); (case qzF => k_asm); (case qzX => k_asm); (case qzN => k_asm); (case qzT => k_asm); (case qzK1 => first | exact rfl | assumption); (case qzK => first | exact rfl | assumption)))); (case qzp => exact pre_search SV SI (by k_asm) (by fail "mine sub") psl (by exact rng_ok (by assumption) (by assumption) (by decide) b8 (by assumption) (by assumption)) (by exact rng_ok (by assumption) (by assumption) (by decide) b8 (by assumption) (by assumption))); (case qzd => ktr_room); (case qzu => ktr_units); ((((intro cv ch ctk cS F9 N9 cl cL cP; obtain ⟨fs, cf, cK, cN⟩ := PF.come (by k_asm) (by k_asm) cP; clear cP cS cl cL; (replace AA := up3 AA cN (by fail "mine mem2") (by fail "mine mem2") (by fail "mine mem2")); (try (replace aD := AllNe.ins3 aD (cN (du, _) (by fail "mine mem2")))); (try (replace aT := AllNe.ins4 aT (cN (td, _) (by fail "mine mem2")))); (first | (replace N9 := ins8 cK N9) | (replace N9 := ins7 cK N9) | (replace N9 := ins6 cK N9) | (replace N9 := ins5 cK N9) | (replace N9 := ins4 cK N9) | (replace N9 := ins3 cK N9)); clear cK cN); (try k_sweep); (try dsimp only); (try k_fold)))))))) | ((k_here; (with_reducible show wpAny _ _ (call (Value.ref 644) _) _ _ _); k_dflt (((fail "fq"; refine' CtP.use (searchF_seg SV SI _ _ _ _ _ _) ?qzB ?qzF ?qzX ?qzN ?qzT ?qzK1 ?qzK ?qzp ?qzd ?qzu ?_); ((((case qzB => k_asm); (case qzF => k_asm); (case qzX => k_asm); (case qzN => k_asm); (case qzT => k_asm); (case qzK1 => first | exact rfl | assumption); (case qzK => first | exact rfl | assumption)))); (case qzp => exact pre_search SV SI (by k_asm) (by fail "mine sub") psl (by exact rng_ok (by assumption) (by assumption) (by decide) b8 (by assumption) (by assumption)) (by exact rng_ok (by assumption) (by assumption) (by decide) b8 (by assumption) (by assumption))); (case qzd => ktr_room); (case qzu => ktr_units); ((((intro cv ch ctk cS F9 N9 cl cL cP; obtain ⟨fs, cf, cK, cN⟩ := PF.come (by k_asm) (by k_asm) cP; clear cP cS cl cL; (replace AA := up3 AA cN (by fail "mine mem2") (by fail "mine mem2") (by fail "mine mem2")); (try (replace aD := AllNe.ins3 aD (cN (du, _) (by fail "mine mem2")))); (try (replace aT := AllNe.ins4 aT (cN (td, _) (by fail "mine mem2")))); (first | (replace N9 := ins8 cK N9) | (replace N9 := ins7 cK N9) | (replace N9 := ins6 cK N9) | (replace N9 := ins5 cK N9) | (replace N9 := ins4 cK N9) | (replace N9 := ins3 cK N9)); clear cK cN); (try k_sweep); (try dsimp only); (try k_fold)))))))) | ((k_here; (with_reducible show wpAny _ _ (call (Value.ref 828) _) _ _ _); k_dflt (((fail "fq"; refine' CtP.use (often_seg SS9 _ _ _ _ _ _ _ _ _ ?qzs1) ?qzB ?qzF ?qzX ?qzN ?qzT ?qzK1 ?qzK ?qzp ?qzd ?qzu ?_); ((((case qzB => k_asm); (case qzF => k_asm); (case qzX => k_asm); (case qzN => k_asm); (case qzT => k_asm); (case qzK1 => first | exact rfl | assumption); (case qzK => first | exact rfl | assumption)))); (case qzs1 => first | exact cnt_ok (by assumption) (by assumption) | exact cnt_ok' (by assumption) (by assumption)); (case qzp => exact ⟨SegP.use SS9 (by k_asm) (by fail "mine sub"), ssl⟩); (case qzd => ktr_room); (case qzu => ktr_units); ((((intro cv ch ctk cS F9 N9 cl cL cP; obtain ⟨fs, cf, cK, cN⟩ := PF.come (by k_asm) (by k_asm) cP; clear cP cS cl cL; (replace AA := up3 AA cN (by fail "mine mem2") (by fail "mine mem2") (by fail "mine mem2")); (try (replace aD := AllNe.ins3 aD (cN (du, _) (by fail "mine mem2")))); (try (replace aT := AllNe.ins4 aT (cN (td, _) (by fail "mine mem2")))); (first | (replace N9 := ins8 cK N9) | (replace N9 := ins7 cK N9) | (replace N9 := ins6 cK N9) | (replace N9 := ins5 cK N9) | (replace N9 := ins4 cK N9) | (replace N9 := ins3 cK N9)); clear cK cN); (try k_sweep); (try dsimp only); (try k_fold)))))))) | ((k_here; (with_reducible show wpAny _ _ (call (Value.ref 821) _) _ _ _); k_dflt (((fail "fq"; refine' CtP.use (back_seg SS9 _ _ _ _ _ _ _) ?qzB ?qzF ?qzX ?qzN ?qzT ?qzK1 ?qzK ?qzp ?qzd ?qzu ?_); ((((case qzB => k_asm); (case qzF => k_asm); (case qzX => k_asm); (case qzN => k_asm); (case qzT => k_asm); (case qzK1 => first | exact rfl | assumption); (case qzK => first | exact rfl | assumption)))); (case qzp => exact ⟨SegP.use SS9 (by k_asm) (by fail "mine sub"), ssl⟩); (case qzd => ktr_room); (case qzu => ktr_units); ((((intro cv ch ctk cS F9 N9 cl cL cP; obtain ⟨fs, cf, cK, cN⟩ := PF.come (by k_asm) (by k_asm) cP; clear cP cS cl cL; (replace AA := up3 AA cN (by fail "mine mem2") (by fail "mine mem2") (by fail "mine mem2")); (try (replace aD := AllNe.ins3 aD (cN (du, _) (by fail "mine mem2")))); (try (replace aT := AllNe.ins4 aT (cN (td, _) (by fail "mine mem2")))); (first | (replace N9 := ins8 cK N9) | (replace N9 := ins7 cK N9) | (replace N9 := ins6 cK N9) | (replace N9 := ins5 cK N9) | (replace N9 := ins4 cK N9) | (replace N9 := ins3 cK N9)); clear cK cN); (try k_sweep); (try dsimp only); (try k_fold)))))))) | ((k_here; (with_reducible show wpAny _ _ (call (Value.ref 816) _) _ _ _); k_dflt (((fail "fq"; refine' CtP.use (ahead_seg SS9 _ _ _ _ _ _ _) ?qzB ?qzF ?qzX ?qzN ?qzT ?qzK1 ?qzK ?qzp ?qzd ?qzu ?_); ((((case qzB => k_asm); (case qzF => k_asm); (case qzX => k_asm); (case qzN => k_asm); (case qzT => k_asm); (case qzK1 => first | exact rfl | assumption); (case qzK => first | exact rfl | assumption)))); (case qzp => exact ⟨SegP.use SS9 (by k_asm) (by fail "mine sub"), ssl⟩); (case qzd => ktr_room); (case qzu => ktr_units); ((((intro cv ch ctk cS F9 N9 cl cL cP; obtain ⟨fs, cf, cK, cN⟩ := PF.come (by k_asm) (by k_asm) cP; clear cP cS cl cL; (replace AA := up3 AA cN (by fail "mine mem2") (by fail "mine mem2") (by fail "mine mem2")); (try (replace aD := AllNe.ins3 aD (cN (du, _) (by fail "mine mem2")))); (try (replace aT := AllNe.ins4 aT (cN (td, _) (by fail "mine mem2")))); (first | (replace N9 := ins8 cK N9) | (replace N9 := ins7 cK N9) | (replace N9 := ins6 cK N9) | (replace N9 := ins5 cK N9) | (replace N9 := ins4 cK N9) | (replace N9 := ins3 cK N9)); clear cK cN); (try k_sweep); (try dsimp only); (try k_fold)))))))) | ((k_here; (with_reducible show wpAny _ _ (call (Value.ref 806) _) _ _ _); k_dflt (((fail "fq"; refine' CtM.useR (draw_seg SD _ dk _ _ _ _ _ (KB.ok kbT ?qzs2) ?qzs3) ?qzB ?qzF ?qzX ?qzN ?qzT ?qzK1 ?qzK (Rems.cons (Rem.head (AllNe.all A0)) Rems.nil) ?qzp ?qzd ?qzu ?_); (case qzB => (k_asm)); (case qzF => (k_asm)); (case qzX => (k_asm)); (case qzN => (first | k_asm | exact drop1 (by k_asm))); (case qzT => (k_asm)); (case qzK1 => (first | exact rfl | assumption)); (case qzK => (first | exact rfl | assumption)); (case qzs2 => decide); (case qzs3 => first | exact ⟨by decide, by decide⟩ | exact many_ok' b8 (by decide) (by decide)); (case qzp => (intro g2 G2 S2; have z9 := SegP.onG SD (by k_asm) (by first | fail "mine sub" | fail) A1 G2; exact ⟨z9, len40⟩)); (case qzd => (ktr_room)); (case qzu => (ktr_units)); (intro cv ch ctk cG F9 N9 cO cP; obtain ⟨r9, t9, tk9, n9, cV, r91, r92, cD⟩ := cP; replace N9 := news_put N9 cD (cO _ (List.Mem.head _)); replace kbT := KB.succ kbT; clear cG cO cD; subst cV; (try k_sweep); (try dsimp only); (try k_fold)))))) | ((k_here; (with_reducible show wpAny _ _ (call (Value.ref 811) _) _ _ _); k_dflt (((fail "fq"; refine' CtP.use (stands_c _ _ _ _ _ _ (str_len b8) (str_len b7)) ?qzB ?qzF ?qzX ?qzN ?qzT ?qzK1 ?qzK trivial ?qzd ?qzu ?_); (case qzB => k_asm); (case qzF => k_asm); (case qzX => k_asm); (case qzN => k_asm); (case qzT => k_asm); (case qzK1 => first | exact rfl | assumption); (case qzK => first | exact rfl | assumption); (case qzd => ktr_room); (case qzu => ktr_units); (intro cv ch ctk cS F9 N9 cl cL cP; obtain ⟨lS, wsS, nS, cV, cQ, hiS, cR⟩ := cP; obtain ⟨NS, dS⟩ := fresh_onto (by k_asm) (by k_asm) N9 cQ cR; clear cl cL cS cQ cR N9; subst cV; (try k_sweep); (try dsimp only); (try k_fold)))))) | ((k_here; (with_reducible show wpAny _ _ (call (Value.ref 806) _) _ _ _); k_dflt (((fail "fq"; refine' CtM.useR (draw_c _ _ _ _ _ _ _ _ _ (KB.ok ?qzs1 ?qzs2) ⟨?qzs3, ?qzs4⟩) ?qzB ?qzF ?qzX ?qzN ?qzT ?qzK1 ?qzK ?qzR ?qzp ?qzd ?qzu ?_); (case qzB => (k_asm)); (case qzF => (k_asm)); (case qzX => (k_asm)); (case qzN => (k_asm)); (case qzT => (k_asm)); (case qzK1 => (first | exact rfl | assumption)); (case qzK => (first | exact rfl | assumption)); (case qzR => (fail "mine rems")); (case qzs1 => (fail "mine kb")); (case qzs2 => decide); (case qzs3 => first | decide | omega); (case qzs4 => first | decide | omega); (case qzp => (intro g2 G2 S2; exact ⟨⟨_, ⟨_, G2 _ _ (News.get (by k_asm) (by k_mem)) (by simp; k_ne), rfl, _, rfl⟩, by assumption⟩, len40⟩)); (case qzd => (ktr_room)); (case qzu => (ktr_units)); (intro cv ch ctk cG F9 N9 cO cP; obtain ⟨r9, t9, tk9, n9, cV, r91, r92, cD⟩ := cP; replace N9 := news_put N9 cD (cO _ (List.Mem.head _)); clear cG cO cD; subst cV; (try k_sweep); (try dsimp only); (try k_fold)); )))) | fail) | ((with_reducible show wpAny _ _ (pyIter (Value.ref _)) _ _ _); k_dflt ((((rename News _ _ _ _ => N6); refine' range_T (σ := LS) 4 [Str.ofString "place", Str.ofString "count", Str.ofString "high", Str.ofString "low", Str.ofString "due", Str.ofString "told_own", Str.ofString "found"] (fun st => (dk, W.listOf #[.ref dc, .int st.k st.tk] st.n) :: (PT, tabObj st.ps) :: st.tl) (fun i st => KB st.k (18 + 4 * (i : Int)) ∧ LoopI dk PT _ _ _ dc _ _ _ _ _ _ (Str.ofString "law.<locals>.<lambda>") st.ps st.tl) ⟨_, _, _, _, _⟩ rfl (by assumption) (by decide) rfl (by assumption) N6 ⟨kbL, LI⟩ (fun i9 t9 u9 st9 h9 tk9 I9 oI9 hi9 hP9 off9 F9 N9 => ?_) (fun u9 st9 h9 tk9 hP9 F9 N9 => ?_); rotate_left; (subst hPT); rotate_right)))) | walk1 | (k_end; wrow_close) | (dsimp only; walk1) | (leave1; try dsimp only) | (dsimp only) | fail "no step"))
    (rename News _ _ _ _ => N7)
    obtain ⟨du, rfl, N8, aD, nD⟩ := due_in N7 (by assumption)
    clear N7
    have psl : (ofN cs7).length ≤ 1000 := by rw [ofN_length]; exact Nat.le_trans b7 (by decide)
    (repeat' ((fail_if_success (with_reducible show wpAny _ _ (exec (Stmt.Expr _ ⟨710, _, _, _⟩) _) _ _ _)); first | fail "unf" | ((with_reducible show GoodW _ _ _ _ _ _ _); first | ((k_dflt (refine' goodW_bool ?qzg1 ?qzg2 ?qzg3 ?qzg4 ?qzg5; (case qzg1 => k_asm); (case qzg2 => k_asm); (case qzg3 => (intro _; kernel_rfl!)); (case qzg4 => kernel_rfl!); (case qzg5 => first | rfl | kernel_rfl!); ))) | fail) | ((with_reducible show wpAny _ _ (eval (Expr.Name _ _) _) _ _ _); first | ((k_here; first | ((with_reducible show wpAny _ _ (eval (Expr.Name _ _) (compEnvC _ _ _ _)) _ _ _); k_dflt (first | (refine' kcf_cell ?qzN ?qzc ?qzm ?qzd ?_ ?qza ?qzb; (case qza => rfl); (case qzb => rfl); (case qzN => k_asm); (case qzc => rfl); (case qzm => fail "mine mem2"); (case qzd => k_asm); k_whole) | (refine' LCgL.ld_own ?qza ?qzb ?qzc ?qzd ?_; (case qza => k_asm); (case qzb => k_mem); (case qzc => assumption); (case qzd => assumption); k_whole) | (refine' LCgL.ld_global ?qza ?qzb ?qzc ?qzd ?_; (case qza => k_asm); (case qzb => k_asm); (case qzc => k_asm); (case qzd => k_is); k_whole) | (refine' LCgL.ld_built ?qza ?qzb ?qzc ?qzd ?qze ?qzf ?_; (case qza => k_asm); (case qzb => k_asm); (case qzc => k_asm); (case qzd => k_is); (case qze => boot_by_name); (case qzf => decide); k_whole))) | k_dflt (first | (refine' name_L ?qzF ?qzv ?qzo ?_; (case qzo => decide +kernel); (case qzF => k_asm); (case qzv => rfl); k_whole) | (refine' name_G ?qzF ?qzX ?qzT ?qze ?qzo ?_; (case qzo => decide +kernel); (case qzF => k_asm); (case qzX => k_asm); (case qzT => k_asm); (case qze => k_is); k_whole) | (refine' name_C ?qzN ?qzc ?qzm ?qzd ?qzo ?_; (case qzo => decide +kernel); (case qzN => k_asm); (case qzc => rfl); (case qzm => fail "mine mem2"); (case qzd => k_asm); k_whole) | (refine' name_I ?qzF ?qzX ?qzT ?qze ?qzv ?qzn ?qzo ?_; (case qzo => decide +kernel); (case qzF => k_asm); (case qzX => k_asm); (case qzT => k_asm); (case qze => k_is); (case qzv => boot_fast); (case qzn => decide); k_whole)))) | ((k_here; (with_reducible show wpAny _ _ (eval (Expr.Name _ _) (compEnvC _ _ _ _)) _ _ _); k_dflt (refine' kcf_cell ?qN ?qc ?qm ?qd ?_ ?qa ?qb; (case qa => rfl); (case qb => rfl); (case qN => k_asm); (case qc => rfl); (case qm => fail "mine mem2"); (case qd => k_asm); k_whole))) | ((k_here; k_dflt (refine' nameX_G ?qF ?qc ?qg ?qd ?_ ?qa ?qb; (case qa => rfl); (case qb => rfl); (case qF => k_asm); (case qc => rfl); (case qg => first | exact g6 | exact g5 | exact g4 | exact g3 | exact g2 | exact g1); (case qd => k_asm); k_whole))) | ((k_here; k_dflt (refine' nameX_C ?qN ?qc ?qm ?qd ?_ ?qa ?qb; (case qa => rfl); (case qb => rfl); (case qN => k_asm); (case qc => rfl); (case qm => fail "mine mem2"); (case qd => k_asm); k_whole))) | fail) | ((with_reducible show wpAny _ _ (callWith _ (Value.ref _) _ _ _) _ _ _); first | ((k_here; k_dflt (first | (refine' callWith_K ?qk1 ?qk2 ?_; (case qk1 => k_asm); (case qk2 => k_is); k_whole) | (refine' callWith_K0F ?qk0 ?qk1 ?qk2 ?_; (case qk0 => k_asm); (case qk1 => k_asm); (case qk2 => k_is); k_whole) | (refine' callWith_KW ?qk1 ?qk2 ?qk3 ?_; (case qk1 => k_asm); (case qk2 => k_is); (case qk3 => exact rfl); k_whole) | (refine' callWith_KW0 ?qk1 ?qk2 ?qk3 ?_; (case qk1 => k_asm); (case qk2 => k_is); (case qk3 => exact rfl); k_whole)))) | ((k_here; k_dflt (refine' callWith_K ?qk1 ?qk2 ?_; (case qk1 => k_asm); (case qk2 => k_is); k_whole))) | fail) | ((with_reducible show EndX _ _ _ _ _ _ _); first | ((k_dflt ((refine' jt_out ?qjF ?qjN AA n1 n2 ?qjm ⟨KB.four hkb, LoopI.up hLI ?qjs AA.1 AA.2.2 (TabSt.up TS ?qjt)⟩; (case qjF => k_asm); (case qjN => first | k_asm | exact drop1 (by k_asm) | exact drop1 (drop1 (by k_asm)) | exact drop1 (drop1 (drop1 (by k_asm))) | exact drop1 (drop1 (drop1 (drop1 (by k_asm)))) | exact drop1 (drop1 (drop1 (drop1 (drop1 (by k_asm)))))); (case qjm => ((intro z h1 h2; (try dsimp +zetaDelta only); (simp only [List.contains_cons, List.contains_nil, Bool.or_false, Bool.or_eq_false_iff, beq_eq_false_iff_ne, ne_eq] at h1 h2); (simp [h1, h2]; done)))); (case qjs => fail "mine sub"); (case qjt => fail "mine sub"))))) | fail) | ((with_reducible show wpAny _ _ (compareOp CmpOp.NotEq _ _) _ _ _); first | ((k_here; k_dflt ((refine ne_find (FindIn.at (reS (by assumption) (by assumption)) (by k_asm) (by fail "mine sub")) (FindIn.at (by assumption) (by k_asm) (by fail "mine sub")) (by ktr_units) ?_)))) | fail) | ((with_reducible show wpAny _ _ (compareOp CmpOp.NotEq (Value.ref _) (Value.ref _)) _ _ _); first | ((k_here; (with_reducible show wpAny _ _ (compareOp CmpOp.NotEq (Value.ref _) (Value.ref _)) _ _ _); k_dflt ((refine ne_finds (by k_asm) (by fail "mine mem2") (by fail "mine mem2") rfl rfl rfl rfl VT hf9 (by fail "mine sub") (by fail "mine sub") (by ktr_units) ?_)))) | fail) | ((with_reducible show LCg.CompSrc _ _ _ _ _ _ _ _ _ _ _ _ _ _); first | ((k_here; k_dflt (((rename News _ _ _ _ => lN'); (refine LCg.CompSrc.ledger (by rfl) (by k_asm) lN' (by fail "mine mem2") (Nat.le_of_ble_eq_true rfl) ?_; intro g'; refine comp_moved' VT VD (fun i9 o9 v9 ys9 fs9 I' oI' C' oC' D' m' h' tk' E' ho9 hv9 hI9 hC' hx' F' N' off9 ne' => ?_) (fun ys9 fs9 hf9 => ?_)))); (all_goals (try k_fold)))) | fail) | ((with_reducible show wpAny _ _ (eval (Expr.Lambda _ _ _ _) _) _ _ _); first | ((k_here; k_dflt (((refine' kla_eval ?qd0 ?_; (case qd0 => exact rfl)); (refine' lam_come ?qF ?qN ?qT ?qC ?qcd (rem5 nT nD hdk9 n1 AA.2.2) TS ?qhq ?qcl ?_; (case qF => k_asm); (case qN => k_asm); (case qT => k_asm); (case qcd => exact rfl); (case qC => (rw [hPT]; kn_code)); (case qhq => first | exact rfl | decide +kernel); (case qcl => exact rfl)); (intro f9 c9 ctv9 pt9 ls h' tk' F9 N9 cK cP cN mf SR TS9; replace AA := up3L AA cN cP (by fail "mine mem2") (by fail "mine mem2"); replace aT := aT_up (o' := tabObj pt9) aT cN (by fail "mine mem2"); replace N9 := ins5 cK (rot5 N9); clear cK cP cN; replace TS := TS9); (try k_sweep); (try dsimp only); (try k_fold))))) | fail) | ((with_reducible show wpAny _ _ (call (Value.builtin "list.append") _) _ _ _); first | ((k_here; (with_reducible show wpAny _ _ (call (Value.builtin _) [Value.ref _, _]) _ _ _); k_dflt (((refine' append_K ?qk1 ?qk2 ?qk3 ?_ ?qz; (case qk1 => k_asm); (case qk2 => k_asm); (case qk3 => first | exact Upd.head (AllNe.all aT) | exact Upd.head (AllNe.all aD)); (case qz => exact Nat.le_of_ble_eq_true rfl); k_whole); intro h' F' N'; (try k_sweep))))) | fail) | ((with_reducible show wpAny _ _ (call (Value.builtin "len") _) _ _ _); first | ((k_here; (with_reducible show wpAny _ _ (call (Value.builtin "len") [Value.str _ _]) _ _ _); k_dflt (first | refine len_text b8 (by decide) ?_ | refine len_text b7 (by decide) ?_))) | fail) | ((with_reducible show wpAny _ _ (call (Value.type _) [Value.ref _]) _ _ _); first | ((k_here; (with_reducible show wpAny _ _ (call (Value.type _) [Value.ref _]) _ _ _); k_dflt (refine' list_ofLst ?qF ?qN ?qb ?qi ?ql ?qz ?_; (case qF => k_asm); (case qN => k_asm); (case qb => k_mem); (case qi => assumption); (case ql => assumption); (case qz => decide)); intro D' c' h' F' N' l1; (try k_lt l1); (try k_sweep))) | fail) | ((with_reducible show LCg.CompEnd _ _ _ _ _ _ _ _ _ _ _ _ _ _); first | ((k_here; k_dflt (refine keep_end (by k_asm) N' off' trivial (OrdR.step hi' hc' (by rfl))))) | fail) | ((with_reducible show TxtSrc _ _ _ _ _ _ _ _ _ _ _ _ _ _); first | ((k_here; k_dflt (((rename News _ _ _ _ => lN'); (refine ⟨_, _, _, rfl, rfl, by k_asm, lN', by exact txt_size (by assumption) (by decide), fun g' => comp_ords (fun i' c' ys' u' I' oI' C' oC' D' m' h' tk' E' hc' hm' hi' hC' hx' F' N' off' ne' => ?_) (fun ys' hy' => ?_)⟩))))) | fail) | ((with_reducible show wpAny _ _ (call (Value.builtin "str.join") _) _ _ _); first | ((k_here; first | (k_dflt (refine' join_drawn ?qk1 hR7 ?qk2 ?_; (case qk1 => exact News.isList (by k_asm) (by k_mem)); (case qk2 => exact len_r (by assumption) (by assumption) (by decide))); intro _ _) | (k_dflt (refine' join_drawn ?qk1 hR8 ?qk2 ?_; (case qk1 => exact News.isList (by k_asm) (by k_mem)); (case qk2 => exact len_r (by assumption) (by assumption) (by decide))); intro _ _) | fail)) | fail) | ((with_reducible show wpAny _ _ (call (Value.ref _) _) _ _ _); first | ((k_here; (first | (with_reducible show wpAny _ _ (call (Value.ref 795) _) _ _ _) | (with_reducible show wpAny _ _ (call (Value.ref 626) _) _ _ _)); k_dflt (refine' call_cls ?qk1 ?qk2 ?qk3 ?qk4 ?qk5 ?qk6 ?_; (case qk1 => k_asm); (case qk2 => k_asm); (case qk3 => k_asm); (case qk4 => k_is); (case qk5 => k_is); (case qk6 => k_is); k_whole; intro x' d' h' F' N' l1 l2; (try k_lt l1); (try k_lt2 l2); (try k_sweep); k_enter; ))) | ((k_here; (with_reducible show wpAny _ _ (call (Value.ref 672) _) _ _ _); k_dflt (((fail "fq"; refine' CtP.use (match_seg hR7 hiQ hy' b7 b8 ?qzs1 ?qzs2 _ _ _ _ _) ?qzB ?qzF ?qzX ?qzN ?qzT ?qzK1 ?qzK ?qzp ?qzd ?qzu ?_); ((((case qzB => k_asm); (case qzF => k_asm); (case qzX => k_asm); (case qzN => k_asm); (case qzT => k_asm); (case qzK1 => first | exact rfl | assumption); (case qzK => first | exact rfl | assumption)))); (case qzs1 => assumption); (case qzs2 => assumption); (case qzp => exact ⟨ints_at (by k_asm) (by fail "mine mem2") hiQ, ints_at (by k_asm) (by fail "mine mem2") hy'⟩); (case qzd => ktr_room); (case qzu => ktr_units); ((((intro cv ch ctk cS F9 N9 cl cL cP; obtain ⟨fs, cf, cK, cN⟩ := PF.come (by k_asm) (by k_asm) cP; clear cP cS cl cL; (replace AA := up3 AA cN (by fail "mine mem2") (by fail "mine mem2") (by fail "mine mem2")); (try (replace aD := AllNe.ins3 aD (cN (du, _) (by fail "mine mem2")))); (try (replace aT := AllNe.ins4 aT (cN (td, _) (by fail "mine mem2")))); (first | (replace N9 := ins8 cK N9) | (replace N9 := ins7 cK N9) | (replace N9 := ins6 cK N9) | (replace N9 := ins5 cK N9) | (replace N9 := ins4 cK N9) | (replace N9 := ins3 cK N9)); clear cK cN); (try k_sweep); (try dsimp only); (try k_fold)))))))) | ((k_here; (with_reducible show wpAny _ _ (call (Value.ref 679) _) _ _ _); k_dflt (((fail "fq"; refine' CtP.use (quote_seg SI hR7 b7 _) ?qzB ?qzF ?qzX ?qzN ?qzT ?qzK1 ?qzK ?qzp ?qzd ?qzu ?_); ((((case qzB => k_asm); (case qzF => k_asm); (case qzX => k_asm); (case qzN => k_asm); (case qzT => k_asm); (case qzK1 => first | exact rfl | assumption); (case qzK => first | exact rfl | assumption)))); (case qzp => exact SegP.use SI (by k_asm) (by fail "mine sub")); (case qzd => ktr_room); (case qzu => ktr_units); (intro cv ch ctk cS F9 N9 cl cL cP; obtain ⟨lQ, wsQ, nQ, cV, cQ, hiQ, cR⟩ := cP; obtain ⟨NS, dQ⟩ := fresh_onto (by k_asm) (by k_asm) N9 cQ cR; clear cl cL cS cQ cR N9; subst cV; (try k_sweep); (try dsimp only); (try k_fold)))))) | ((k_here; (with_reducible show wpAny _ _ (call (Value.ref 833) _) _ _ _); k_dflt (((fail "fq"; refine' CtP.use (law_moved_c _ _ o9 _ _) ?qzB ?qzF ?qzX ?qzN ?qzT ?qzK1 ?qzK ?qzp ?qzd ?qzu ?_); ((((case qzB => k_asm); (case qzF => k_asm); (case qzX => k_asm); (case qzN => k_asm); (case qzT => k_asm); (case qzK1 => first | exact rfl | assumption); (case qzK => first | exact rfl | assumption)))); (case qzp => exact FindIn.at hv9 (by k_asm) (by fail "mine sub")); (case qzd => ktr_room); (case qzu => ktr_units); (intro cv ch ctk cS F9 N9 cl cL cP; exact moved_end (by k_asm) F9 (by k_asm) N9 off9 cP ho9 hI9 (fun fs => src_at (by fail "mine mem2") fs)))))) | ((k_here; (with_reducible show wpAny _ _ (call (Value.ref 665) _) _ _ _); k_dflt ((first | ((fail "fq"; refine' CtP.use (againF_seg SV SI SS9 mf _ ?qhC _ _ _ _ ?qhpl ?qhc) ?qzB ?qzF ?qzX ?qzN ?qzT ?qzK1 ?qzK ?qzp ?qzd ?qzu ?_); (case qhc => exact cnt_ok (by assumption) (by assumption)); (case qhpl => exact pl_okN (by assumption) (by assumption)); (((((((case qzB => k_asm); (case qzF => k_asm); (case qzX => k_asm); (case qzN => k_asm); (case qzT => k_asm); (case qzK1 => first | exact rfl | assumption); (case qzK => first | exact rfl | assumption)))); (case qzp => exact Stands.of (by k_asm) (by fail "mine sub") (by fail "mine sub")); (case qzd => ktr_room); (case qzu => ktr_units); (case qhC => ((((simp only [ofN_length]); intro p91 t91 h91 h92; (refine' CtP.mkL (fun _ hp => hp _ (List.mem_append_left _ mf)) SR ?qk9 ?qkB ?qkz ?qc2 ?qc3 ?qc4 ?qc5 ?_; (case qk9 => rfl); (case qc5 => decide +kernel); (case qkB => exact locs rfl); (case qkz => dsimp only [List.map, List.zip, List.zipWith, List.reverse, List.reverseAux]; try exact rfl); (case qc2 => exact rfl); (case qc3 => exact rfl); (case qc4 => exact rfl)); intro p loose mean mg mb dp un gd env outer base sh sg sd so Q E hdp hu hp hret L₁ h₁ tk₁ mm F₁ N₁ B₁ X₁ T₁ A₁ ek gk; have bd : Bnd mm := Bnd.mk; have g6 := hp _ (List.mem_append_right _ k6); have g5 := hp _ (List.mem_append_right _ k5); have g4 := hp _ (List.mem_append_right _ k4); have g3 := hp _ (List.mem_append_right _ k3); have g2 := hp _ (List.mem_append_right _ k2); have g1 := hp _ (List.mem_append_right _ k1))); repeat' ((fail_if_success (with_reducible show Q _ _)); first | fail "unf" | ((with_reducible show GoodW _ _ _ _ _ _ _); first | ((k_dflt (refine' goodW_bool ?qzg1 ?qzg2 ?qzg3 ?qzg4 ?qzg5; (case qzg1 => k_asm); (case qzg2 => k_asm); (case qzg3 => (intro _; kernel_rfl!)); (case qzg4 => kernel_rfl!); (case qzg5 => first | rfl | kernel_rfl!); ))) | fail) | ((with_reducible show wpAny _ _ (eval (Expr.Name _ _) _) _ _ _); first | ((k_here; first | ((with_reducible show wpAny _ _ (eval (Expr.Name _ _) (compEnvC _ _ _ _)) _ _ _); k_dflt (first | (refine' kcf_cell ?qzN ?qzc ?qzm ?qzd ?_ ?qza ?qzb; (case qza => rfl); (case qzb => rfl); (case qzN => k_asm); (case qzc => rfl); (case qzm => fail "mine mem2"); (case qzd => k_asm); k_whole) | (refine' LCgL.ld_own ?qza ?qzb ?qzc ?qzd ?_; (case qza => k_asm); (case qzb => k_mem); (case qzc => assumption); (case qzd => assumption); k_whole) | (refine' LCgL.ld_global ?qza ?qzb ?qzc ?qzd ?_; (case qza => k_asm); (case qzb => k_asm); (case qzc => k_asm); (case qzd => k_is); k_whole) | (refine' LCgL.ld_built ?qza ?qzb ?qzc ?qzd ?qze ?qzf ?_; (case qza => k_asm); (case qzb => k_asm); (case qzc => k_asm); (case qzd => k_is); (case qze => boot_by_name); (case qzf => decide); k_whole))) | k_dflt (first | (refine' name_L ?qzF ?qzv ?qzo ?_; (case qzo => decide +kernel); (case qzF => k_asm); (case qzv => rfl); k_whole) | (refine' name_G ?qzF ?qzX ?qzT ?qze ?qzo ?_; (case qzo => decide +kernel); (case qzF => k_asm); (case qzX => k_asm); (case qzT => k_asm); (case qze => k_is); k_whole) | (refine' name_C ?qzN ?qzc ?qzm ?qzd ?qzo ?_; (case qzo => decide +kernel); (case qzN => k_asm); (case qzc => rfl); (case qzm => fail "mine mem2"); (case qzd => k_asm); k_whole) | (refine' name_I ?qzF ?qzX ?qzT ?qze ?qzv ?qzn ?qzo ?_; (case qzo => decide +kernel); (case qzF => k_asm); (case qzX => k_asm); (case qzT => k_asm); (case qze => k_is); (case qzv => boot_fast); (case qzn => decide); k_whole)))) | ((k_here; (with_reducible show wpAny _ _ (eval (Expr.Name _ _) (compEnvC _ _ _ _)) _ _ _); k_dflt (refine' kcf_cell ?qN ?qc ?qm ?qd ?_ ?qa ?qb; (case qa => rfl); (case qb => rfl); (case qN => k_asm); (case qc => rfl); (case qm => fail "mine mem2"); (case qd => k_asm); k_whole))) | ((k_here; k_dflt (refine' nameX_G ?qF ?qc ?qg ?qd ?_ ?qa ?qb; (case qa => rfl); (case qb => rfl); (case qF => k_asm); (case qc => rfl); (case qg => first | exact g6 | exact g5 | exact g4 | exact g3 | exact g2 | exact g1); (case qd => k_asm); k_whole))) | ((k_here; k_dflt (refine' nameX_C ?qN ?qc ?qm ?qd ?_ ?qa ?qb; (case qa => rfl); (case qb => rfl); (case qN => k_asm); (case qc => rfl); (case qm => fail "mine mem2"); (case qd => k_asm); k_whole))) | fail) | ((with_reducible show wpAny _ _ (callWith _ (Value.ref _) _ _ _) _ _ _); first | ((k_here; k_dflt (first | (refine' callWith_K ?qk1 ?qk2 ?_; (case qk1 => k_asm); (case qk2 => k_is); k_whole) | (refine' callWith_K0F ?qk0 ?qk1 ?qk2 ?_; (case qk0 => k_asm); (case qk1 => k_asm); (case qk2 => k_is); k_whole) | (refine' callWith_KW ?qk1 ?qk2 ?qk3 ?_; (case qk1 => k_asm); (case qk2 => k_is); (case qk3 => exact rfl); k_whole) | (refine' callWith_KW0 ?qk1 ?qk2 ?qk3 ?_; (case qk1 => k_asm); (case qk2 => k_is); (case qk3 => exact rfl); k_whole)))) | ((k_here; k_dflt (refine' callWith_K ?qk1 ?qk2 ?_; (case qk1 => k_asm); (case qk2 => k_is); k_whole))) | fail) | ((with_reducible show EndX _ _ _ _ _ _ _); first | ((k_dflt ((refine' jt_out ?qjF ?qjN AA n1 n2 ?qjm ⟨KB.four hkb, LoopI.up hLI ?qjs AA.1 AA.2.2 (TabSt.up TS ?qjt)⟩; (case qjF => k_asm); (case qjN => first | k_asm | exact drop1 (by k_asm) | exact drop1 (drop1 (by k_asm)) | exact drop1 (drop1 (drop1 (by k_asm))) | exact drop1 (drop1 (drop1 (drop1 (by k_asm)))) | exact drop1 (drop1 (drop1 (drop1 (drop1 (by k_asm)))))); (case qjm => ((intro z h1 h2; (try dsimp +zetaDelta only); (simp only [List.contains_cons, List.contains_nil, Bool.or_false, Bool.or_eq_false_iff, beq_eq_false_iff_ne, ne_eq] at h1 h2); (simp [h1, h2]; done)))); (case qjs => fail "mine sub"); (case qjt => fail "mine sub"))))) | fail) | ((with_reducible show wpAny _ _ (compareOp CmpOp.NotEq _ _) _ _ _); first | ((k_here; k_dflt ((refine ne_find (FindIn.at (reS (by assumption) (by assumption)) (by k_asm) (by fail "mine sub")) (FindIn.at (by assumption) (by k_asm) (by fail "mine sub")) (by ktr_units) ?_)))) | fail) | ((with_reducible show wpAny _ _ (compareOp CmpOp.NotEq (Value.ref _) (Value.ref _)) _ _ _); first | ((k_here; (with_reducible show wpAny _ _ (compareOp CmpOp.NotEq (Value.ref _) (Value.ref _)) _ _ _); k_dflt ((refine ne_finds (by k_asm) (by fail "mine mem2") (by fail "mine mem2") rfl rfl rfl rfl VT hf9 (by fail "mine sub") (by fail "mine sub") (by ktr_units) ?_)))) | fail) | ((with_reducible show LCg.CompSrc _ _ _ _ _ _ _ _ _ _ _ _ _ _); first | ((k_here; k_dflt (((rename News _ _ _ _ => lN'); (refine LCg.CompSrc.ledger (by rfl) (by k_asm) lN' (by fail "mine mem2") (Nat.le_of_ble_eq_true rfl) ?_; intro g'; refine comp_moved' VT VD (fun i9 o9 v9 ys9 fs9 I' oI' C' oC' D' m' h' tk' E' ho9 hv9 hI9 hC' hx' F' N' off9 ne' => ?_) (fun ys9 fs9 hf9 => ?_)))); (all_goals (try k_fold)))) | fail) | ((with_reducible show wpAny _ _ (eval (Expr.Lambda _ _ _ _) _) _ _ _); first | ((k_here; k_dflt (((refine' kla_eval ?qd0 ?_; (case qd0 => exact rfl)); (refine' lam_come ?qF ?qN ?qT ?qC ?qcd (rem5 nT nD hdk9 n1 AA.2.2) TS ?qhq ?qcl ?_; (case qF => k_asm); (case qN => k_asm); (case qT => k_asm); (case qcd => exact rfl); (case qC => (rw [hPT]; kn_code)); (case qhq => first | exact rfl | decide +kernel); (case qcl => exact rfl)); (intro f9 c9 ctv9 pt9 ls h' tk' F9 N9 cK cP cN mf SR TS9; replace AA := up3L AA cN cP (by fail "mine mem2") (by fail "mine mem2"); replace aT := aT_up (o' := tabObj pt9) aT cN (by fail "mine mem2"); replace N9 := ins5 cK (rot5 N9); clear cK cP cN; replace TS := TS9); (try k_sweep); (try dsimp only); (try k_fold))))) | fail) | ((with_reducible show wpAny _ _ (call (Value.builtin "list.append") _) _ _ _); first | ((k_here; (with_reducible show wpAny _ _ (call (Value.builtin _) [Value.ref _, _]) _ _ _); k_dflt (((refine' append_K ?qk1 ?qk2 ?qk3 ?_ ?qz; (case qk1 => k_asm); (case qk2 => k_asm); (case qk3 => first | exact Upd.head (AllNe.all aT) | exact Upd.head (AllNe.all aD)); (case qz => exact Nat.le_of_ble_eq_true rfl); k_whole); intro h' F' N'; (try k_sweep))))) | fail) | ((with_reducible show wpAny _ _ (call (Value.builtin "len") _) _ _ _); first | ((k_here; (with_reducible show wpAny _ _ (call (Value.builtin "len") [Value.str _ _]) _ _ _); k_dflt (first | refine len_text b8 (by decide) ?_ | refine len_text b7 (by decide) ?_))) | fail) | ((with_reducible show wpAny _ _ (call (Value.type _) [Value.ref _]) _ _ _); first | ((k_here; (with_reducible show wpAny _ _ (call (Value.type _) [Value.ref _]) _ _ _); k_dflt (refine' list_ofLst ?qF ?qN ?qb ?qi ?ql ?qz ?_; (case qF => k_asm); (case qN => k_asm); (case qb => k_mem); (case qi => assumption); (case ql => assumption); (case qz => decide)); intro D' c' h' F' N' l1; (try k_lt l1); (try k_sweep))) | fail) | ((with_reducible show LCg.CompEnd _ _ _ _ _ _ _ _ _ _ _ _ _ _); first | ((k_here; k_dflt (refine keep_end (by k_asm) N' off' trivial (OrdR.step hi' hc' (by rfl))))) | fail) | ((with_reducible show TxtSrc _ _ _ _ _ _ _ _ _ _ _ _ _ _); first | ((k_here; k_dflt (((rename News _ _ _ _ => lN'); (refine ⟨_, _, _, rfl, rfl, by k_asm, lN', by exact txt_size (by assumption) (by decide), fun g' => comp_ords (fun i' c' ys' u' I' oI' C' oC' D' m' h' tk' E' hc' hm' hi' hC' hx' F' N' off' ne' => ?_) (fun ys' hy' => ?_)⟩))))) | fail) | ((with_reducible show wpAny _ _ (call (Value.builtin "str.join") _) _ _ _); first | ((k_here; first | (k_dflt (refine' join_drawn ?qk1 hR7 ?qk2 ?_; (case qk1 => exact News.isList (by k_asm) (by k_mem)); (case qk2 => exact len_r (by assumption) (by assumption) (by decide))); intro _ _) | (k_dflt (refine' join_drawn ?qk1 hR8 ?qk2 ?_; (case qk1 => exact News.isList (by k_asm) (by k_mem)); (case qk2 => exact len_r (by assumption) (by assumption) (by decide))); intro _ _) | fail)) | fail) | ((with_reducible show wpAny _ _ (call (Value.ref _) _) _ _ _); first | ((k_here; (first | (with_reducible show wpAny _ _ (call (Value.ref 795) _) _ _ _) | (with_reducible show wpAny _ _ (call (Value.ref 626) _) _ _ _)); k_dflt (refine' call_cls ?qk1 ?qk2 ?qk3 ?qk4 ?qk5 ?qk6 ?_; (case qk1 => k_asm); (case qk2 => k_asm); (case qk3 => k_asm); (case qk4 => k_is); (case qk5 => k_is); (case qk6 => k_is); k_whole; intro x' d' h' F' N' l1 l2; (try k_lt l1); (try k_lt2 l2); (try k_sweep); k_enter; ))) | ((k_here; (with_reducible show wpAny _ _ (call (Value.ref 672) _) _ _ _); k_dflt (((fail "fq"; refine' CtP.use (match_seg hR7 hiQ hy' b7 b8 ?qzs1 ?qzs2 _ _ _ _ _) ?qzB ?qzF ?qzX ?qzN ?qzT ?qzK1 ?qzK ?qzp ?qzd ?qzu ?_); ((((case qzB => k_asm); (case qzF => k_asm); (case qzX => k_asm); (case qzN => k_asm); (case qzT => k_asm); (case qzK1 => first | exact rfl | assumption); (case qzK => first | exact rfl | assumption)))); (case qzs1 => assumption); (case qzs2 => assumption); (case qzp => exact ⟨ints_at (by k_asm) (by fail "mine mem2") hiQ, ints_at (by k_asm) (by fail "mine mem2") hy'⟩); (case qzd => ktr_room); (case qzu => ktr_units); ((((intro cv ch ctk cS F9 N9 cl cL cP; obtain ⟨fs, cf, cK, cN⟩ := PF.come (by k_asm) (by k_asm) cP; clear cP cS cl cL; (replace AA := up3 AA cN (by fail "mine mem2") (by fail "mine mem2") (by fail "mine mem2")); (try (replace aD := AllNe.ins3 aD (cN (du, _) (by fail "mine mem2")))); (try (replace aT := AllNe.ins4 aT (cN (td, _) (by fail "mine mem2")))); (first | (replace N9 := ins8 cK N9) | (replace N9 := ins7 cK N9) | (replace N9 := ins6 cK N9) | (replace N9 := ins5 cK N9) | (replace N9 := ins4 cK N9) | (replace N9 := ins3 cK N9)); clear cK cN); (try k_sweep); (try dsimp only); (try k_fold)))))))) | ((k_here; (with_reducible show wpAny _ _ (call (Value.ref 679) _) _ _ _); k_dflt (((fail "fq"; refine' CtP.use (quote_seg SI hR7 b7 _) ?qzB ?qzF ?qzX ?qzN ?qzT ?qzK1 ?qzK ?qzp ?qzd ?qzu ?_); ((((case qzB => k_asm); (case qzF => k_asm); (case qzX => k_asm); (case qzN => k_asm); (case qzT => k_asm); (case qzK1 => first | exact rfl | assumption); (case qzK => first | exact rfl | assumption)))); (case qzp => exact SegP.use SI (by k_asm) (by fail "mine sub")); (case qzd => ktr_room); (case qzu => ktr_units); (intro cv ch ctk cS F9 N9 cl cL cP; obtain ⟨lQ, wsQ, nQ, cV, cQ, hiQ, cR⟩ := cP; obtain ⟨NS, dQ⟩ := fresh_onto (by k_asm) (by k_asm) N9 cQ cR; clear cl cL cS cQ cR N9; subst cV; (try k_sweep); (try dsimp only); (try k_fold)))))) | ((k_here; (with_reducible show wpAny _ _ (call (Value.ref 833) _) _ _ _); k_dflt (((fail "fq"; refine' CtP.use (law_moved_c _ _ o9 _ _) ?qzB ?qzF ?qzX ?qzN ?qzT ?qzK1 ?qzK ?qzp ?qzd ?qzu ?_); ((((case qzB => k_asm); (case qzF => k_asm); (case qzX => k_asm); (case qzN => k_asm); (case qzT => k_asm); (case qzK1 => first | exact rfl | assumption); (case qzK => first | exact rfl | assumption)))); (case qzp => exact FindIn.at hv9 (by k_asm) (by fail "mine sub")); (case qzd => ktr_room); (case qzu => ktr_units); (intro cv ch ctk cS F9 N9 cl cL cP; exact moved_end (by k_asm) F9 (by k_asm) N9 off9 cP ho9 hI9 (fun fs => src_at (by fail "mine mem2") fs)))))) | ((k_here; (with_reducible show wpAny _ _ (call (Value.ref 651) _) _ _ _); k_dflt (((fail "fq"; refine' CtP.use (searchB_seg SV SI _ _ _ _ _ _) ?qzB ?qzF ?qzX ?qzN ?qzT ?qzK1 ?qzK ?qzp ?qzd ?qzu ?_); ((((case qzB => k_asm); (case qzF => k_asm); (case qzX => k_asm); (case qzN => k_asm); (case qzT => k_asm); (case qzK1 => first | exact rfl | assumption); (case qzK => first | exact rfl | assumption)))); (case qzp => exact pre_lam hp (Fr.keep (by k_asm)) SV SI psl (by exact strongP h91 h92 b8 (by assumption) (by assumption)) (by exact strongB (by assumption) (by assumption))); (case qzd => ktr_room); (case qzu => ktr_units); (intro cv ch ctk cS F9 N9 cl cL cP; exact hret _ _ _ (Fr.keep F9) (PF.back (Fr.keep (by k_asm)) cP)))))) | ((k_here; (with_reducible show wpAny _ _ (call (Value.ref 644) _) _ _ _); k_dflt (((fail "fq"; refine' CtP.use (searchF_seg SV SI _ _ _ _ _ _) ?qzB ?qzF ?qzX ?qzN ?qzT ?qzK1 ?qzK ?qzp ?qzd ?qzu ?_); ((((case qzB => k_asm); (case qzF => k_asm); (case qzX => k_asm); (case qzN => k_asm); (case qzT => k_asm); (case qzK1 => first | exact rfl | assumption); (case qzK => first | exact rfl | assumption)))); (case qzp => exact pre_lam hp (Fr.keep (by k_asm)) SV SI psl (by exact strongP h91 h92 b8 (by assumption) (by assumption)) (by exact strongN b8 (by assumption) (by assumption))); (case qzd => ktr_room); (case qzu => ktr_units); (intro cv ch ctk cS F9 N9 cl cL cP; exact hret _ _ _ (Fr.keep F9) (PF.back (Fr.keep (by k_asm)) cP)))))) | ((k_here; (with_reducible show wpAny _ _ (call (Value.ref 651) _) _ _ _); k_dflt (((fail "fq"; refine' CtP.use (searchB_seg SV SI _ _ _ _ _ _) ?qzB ?qzF ?qzX ?qzN ?qzT ?qzK1 ?qzK ?qzp ?qzd ?qzu ?_); ((((case qzB => k_asm); (case qzF => k_asm); (case qzX => k_asm); (case qzN => k_asm); (case qzT => k_asm); (case qzK1 => first | exact rfl | assumption); (case qzK => first | exact rfl | assumption)))); (case qzp => exact pre_search SV SI (by k_asm) (by fail "mine sub") psl (by exact rng_ok (by assumption) (by assumption) (by decide) b8 (by assumption) (by assumption)) (by exact rng_ok (by assumption) (by assumption) (by decide) b8 (by assumption) (by assumption))); (case qzd => ktr_room); (case qzu => ktr_units); ((((intro cv ch ctk cS F9 N9 cl cL cP; obtain ⟨fs, cf, cK, cN⟩ := PF.come (by k_asm) (by k_asm) cP; clear cP cS cl cL; (replace AA := up3 AA cN (by fail "mine mem2") (by fail "mine mem2") (by fail "mine mem2")); (try (replace aD := AllNe.ins3 aD (cN (du, _) (by fail "mine mem2")))); (try (replace aT := AllNe.ins4 aT (cN (td, _) (by fail "mine mem2")))); (first | (replace N9 := ins8 cK N9) | (replace N9 := ins7 cK N9) | (replace N9 := ins6 cK N9) | (replace N9 := ins5 cK N9) | (replace N9 := ins4 cK N9) | (replace N9 := ins3 cK N9)); clear cK cN); (try k_sweep); (try dsimp only); (try k_fold)))))))) | ((k_here; (with_reducible show wpAny _ _ (call (Value.ref 644) _) _ _ _); k_dflt (((fail "fq"; refine' CtP.use (searchF_seg SV SI _ _ _ _ _ _) ?qzB ?qzF ?qzX ?qzN ?qzT ?qzK1 ?qzK ?qzp ?qzd ?qzu ?_); ((((case qzB => k_asm); (case qzF => k_asm); (case qzX => k_asm); (case qzN => k_asm); (case qzT => k_asm); (case qzK1 => first | exact rfl | assumption); (case qzK => first | exact rfl | assumption)))); (case qzp => exact pre_search SV SI (by k_asm) (by fail "mine sub") psl (by exact rng_ok (by assumption) (by assumption) (by decide) b8 (by assumption) (by assumption)) (by exact rng_ok (by assumption) (by assumption) (by decide) b8 (by assumption) (by assumption))); (case qzd => ktr_room); (case qzu => ktr_units); ((((intro cv ch ctk cS F9 N9 cl cL cP; obtain ⟨fs, cf, cK, cN⟩ := PF.come (by k_asm) (by k_asm) cP; clear cP cS cl cL; (replace AA := up3 AA cN (by fail "mine mem2") (by fail "mine mem2") (by fail "mine mem2")); (try (replace aD := AllNe.ins3 aD (cN (du, _) (by fail "mine mem2")))); (try (replace aT := AllNe.ins4 aT (cN (td, _) (by fail "mine mem2")))); (first | (replace N9 := ins8 cK N9) | (replace N9 := ins7 cK N9) | (replace N9 := ins6 cK N9) | (replace N9 := ins5 cK N9) | (replace N9 := ins4 cK N9) | (replace N9 := ins3 cK N9)); clear cK cN); (try k_sweep); (try dsimp only); (try k_fold)))))))) | ((k_here; (with_reducible show wpAny _ _ (call (Value.ref 828) _) _ _ _); k_dflt (((fail "fq"; refine' CtP.use (often_seg SS9 _ _ _ _ _ _ _ _ _ ?qzs1) ?qzB ?qzF ?qzX ?qzN ?qzT ?qzK1 ?qzK ?qzp ?qzd ?qzu ?_); ((((case qzB => k_asm); (case qzF => k_asm); (case qzX => k_asm); (case qzN => k_asm); (case qzT => k_asm); (case qzK1 => first | exact rfl | assumption); (case qzK => first | exact rfl | assumption)))); (case qzs1 => first | exact cnt_ok (by assumption) (by assumption) | exact cnt_ok' (by assumption) (by assumption)); (case qzp => exact ⟨SegP.use SS9 (by k_asm) (by fail "mine sub"), ssl⟩); (case qzd => ktr_room); (case qzu => ktr_units); ((((intro cv ch ctk cS F9 N9 cl cL cP; obtain ⟨fs, cf, cK, cN⟩ := PF.come (by k_asm) (by k_asm) cP; clear cP cS cl cL; (replace AA := up3 AA cN (by fail "mine mem2") (by fail "mine mem2") (by fail "mine mem2")); (try (replace aD := AllNe.ins3 aD (cN (du, _) (by fail "mine mem2")))); (try (replace aT := AllNe.ins4 aT (cN (td, _) (by fail "mine mem2")))); (first | (replace N9 := ins8 cK N9) | (replace N9 := ins7 cK N9) | (replace N9 := ins6 cK N9) | (replace N9 := ins5 cK N9) | (replace N9 := ins4 cK N9) | (replace N9 := ins3 cK N9)); clear cK cN); (try k_sweep); (try dsimp only); (try k_fold)))))))) | ((k_here; (with_reducible show wpAny _ _ (call (Value.ref 821) _) _ _ _); k_dflt (((fail "fq"; refine' CtP.use (back_seg SS9 _ _ _ _ _ _ _) ?qzB ?qzF ?qzX ?qzN ?qzT ?qzK1 ?qzK ?qzp ?qzd ?qzu ?_); ((((case qzB => k_asm); (case qzF => k_asm); (case qzX => k_asm); (case qzN => k_asm); (case qzT => k_asm); (case qzK1 => first | exact rfl | assumption); (case qzK => first | exact rfl | assumption)))); (case qzp => exact ⟨SegP.use SS9 (by k_asm) (by fail "mine sub"), ssl⟩); (case qzd => ktr_room); (case qzu => ktr_units); ((((intro cv ch ctk cS F9 N9 cl cL cP; obtain ⟨fs, cf, cK, cN⟩ := PF.come (by k_asm) (by k_asm) cP; clear cP cS cl cL; (replace AA := up3 AA cN (by fail "mine mem2") (by fail "mine mem2") (by fail "mine mem2")); (try (replace aD := AllNe.ins3 aD (cN (du, _) (by fail "mine mem2")))); (try (replace aT := AllNe.ins4 aT (cN (td, _) (by fail "mine mem2")))); (first | (replace N9 := ins8 cK N9) | (replace N9 := ins7 cK N9) | (replace N9 := ins6 cK N9) | (replace N9 := ins5 cK N9) | (replace N9 := ins4 cK N9) | (replace N9 := ins3 cK N9)); clear cK cN); (try k_sweep); (try dsimp only); (try k_fold)))))))) | ((k_here; (with_reducible show wpAny _ _ (call (Value.ref 816) _) _ _ _); k_dflt (((fail "fq"; refine' CtP.use (ahead_seg SS9 _ _ _ _ _ _ _) ?qzB ?qzF ?qzX ?qzN ?qzT ?qzK1 ?qzK ?qzp ?qzd ?qzu ?_); ((((case qzB => k_asm); (case qzF => k_asm); (case qzX => k_asm); (case qzN => k_asm); (case qzT => k_asm); (case qzK1 => first | exact rfl | assumption); (case qzK => first | exact rfl | assumption)))); (case qzp => exact ⟨SegP.use SS9 (by k_asm) (by fail "mine sub"), ssl⟩); (case qzd => ktr_room); (case qzu => ktr_units); ((((intro cv ch ctk cS F9 N9 cl cL cP; obtain ⟨fs, cf, cK, cN⟩ := PF.come (by k_asm) (by k_asm) cP; clear cP cS cl cL; (replace AA := up3 AA cN (by fail "mine mem2") (by fail "mine mem2") (by fail "mine mem2")); (try (replace aD := AllNe.ins3 aD (cN (du, _) (by fail "mine mem2")))); (try (replace aT := AllNe.ins4 aT (cN (td, _) (by fail "mine mem2")))); (first | (replace N9 := ins8 cK N9) | (replace N9 := ins7 cK N9) | (replace N9 := ins6 cK N9) | (replace N9 := ins5 cK N9) | (replace N9 := ins4 cK N9) | (replace N9 := ins3 cK N9)); clear cK cN); (try k_sweep); (try dsimp only); (try k_fold)))))))) | ((k_here; (with_reducible show wpAny _ _ (call (Value.ref 806) _) _ _ _); k_dflt (((fail "fq"; refine' CtM.useR (draw_seg SD _ dk _ _ _ _ _ (KB.ok kbT ?qzs2) ?qzs3) ?qzB ?qzF ?qzX ?qzN ?qzT ?qzK1 ?qzK (Rems.cons (Rem.head (AllNe.all A0)) Rems.nil) ?qzp ?qzd ?qzu ?_); (case qzB => (k_asm)); (case qzF => (k_asm)); (case qzX => (k_asm)); (case qzN => (first | k_asm | exact drop1 (by k_asm))); (case qzT => (k_asm)); (case qzK1 => (first | exact rfl | assumption)); (case qzK => (first | exact rfl | assumption)); (case qzs2 => decide); (case qzs3 => first | exact ⟨by decide, by decide⟩ | exact many_ok' b8 (by decide) (by decide)); (case qzp => (intro g2 G2 S2; have z9 := SegP.onG SD (by k_asm) (by first | fail "mine sub" | fail) A1 G2; exact ⟨z9, len40⟩)); (case qzd => (ktr_room)); (case qzu => (ktr_units)); (intro cv ch ctk cG F9 N9 cO cP; obtain ⟨r9, t9, tk9, n9, cV, r91, r92, cD⟩ := cP; replace N9 := news_put N9 cD (cO _ (List.Mem.head _)); replace kbT := KB.succ kbT; clear cG cO cD; subst cV; (try k_sweep); (try dsimp only); (try k_fold)))))) | ((k_here; (with_reducible show wpAny _ _ (call (Value.ref 811) _) _ _ _); k_dflt (((fail "fq"; refine' CtP.use (stands_c _ _ _ _ _ _ (str_len b8) (str_len b7)) ?qzB ?qzF ?qzX ?qzN ?qzT ?qzK1 ?qzK trivial ?qzd ?qzu ?_); (case qzB => k_asm); (case qzF => k_asm); (case qzX => k_asm); (case qzN => k_asm); (case qzT => k_asm); (case qzK1 => first | exact rfl | assumption); (case qzK => first | exact rfl | assumption); (case qzd => ktr_room); (case qzu => ktr_units); (intro cv ch ctk cS F9 N9 cl cL cP; obtain ⟨lS, wsS, nS, cV, cQ, hiS, cR⟩ := cP; obtain ⟨NS, dS⟩ := fresh_onto (by k_asm) (by k_asm) N9 cQ cR; clear cl cL cS cQ cR N9; subst cV; (try k_sweep); (try dsimp only); (try k_fold)))))) | ((k_here; (with_reducible show wpAny _ _ (call (Value.ref 806) _) _ _ _); k_dflt (((fail "fq"; refine' CtM.useR (draw_c _ _ _ _ _ _ _ _ _ (KB.ok ?qzs1 ?qzs2) ⟨?qzs3, ?qzs4⟩) ?qzB ?qzF ?qzX ?qzN ?qzT ?qzK1 ?qzK ?qzR ?qzp ?qzd ?qzu ?_); (case qzB => (k_asm)); (case qzF => (k_asm)); (case qzX => (k_asm)); (case qzN => (k_asm)); (case qzT => (k_asm)); (case qzK1 => (first | exact rfl | assumption)); (case qzK => (first | exact rfl | assumption)); (case qzR => (fail "mine rems")); (case qzs1 => (fail "mine kb")); (case qzs2 => decide); (case qzs3 => first | decide | omega); (case qzs4 => first | decide | omega); (case qzp => (intro g2 G2 S2; exact ⟨⟨_, ⟨_, G2 _ _ (News.get (by k_asm) (by k_mem)) (by simp; k_ne), rfl, _, rfl⟩, by assumption⟩, len40⟩)); (case qzd => (ktr_room)); (case qzu => (ktr_units)); (intro cv ch ctk cG F9 N9 cO cP; obtain ⟨r9, t9, tk9, n9, cV, r91, r92, cD⟩ := cP; replace N9 := news_put N9 cD (cO _ (List.Mem.head _)); clear cG cO cD; subst cV; (try k_sweep); (try dsimp only); (try k_fold)); )))) | fail) | walk1 | (k_end; wrow_close) | (dsimp only; walk1) | (leave1; try dsimp only) | (dsimp only) | fail "no step"))); ((((intro cv ch ctk cS F9 N9 cl cL cP; obtain ⟨fs, cf, cK, cN⟩ := PF.come (by k_asm) (by k_asm) cP; clear cP cS cl cL; (replace AA := up3 AA cN (by fail "mine mem2") (by fail "mine mem2") (by fail "mine mem2")); (try (replace aD := AllNe.ins3 aD (cN (du, _) (by fail "mine mem2")))); (try (replace aT := AllNe.ins4 aT (cN (td, _) (by fail "mine mem2")))); (first | (replace N9 := ins8 cK N9) | (replace N9 := ins7 cK N9) | (replace N9 := ins6 cK N9) | (replace N9 := ins5 cK N9) | (replace N9 := ins4 cK N9) | (replace N9 := ins3 cK N9)); clear cK cN); (try k_sweep); (try dsimp only); (try k_fold)))))))) | ((fail "fq"; refine' CtP.use (againB_seg SV SI SS9 mf _ ?qhC _ _ _ _ ?qhpl ?qhc) ?qzB ?qzF ?qzX ?qzN ?qzT ?qzK1 ?qzK ?qzp ?qzd ?qzu ?_); (case qhc => exact cnt_ok' (by assumption) (by assumption)); (case qhpl => exact pl_okN (by assumption) (by assumption)); (((((((case qzB => k_asm); (case qzF => k_asm); (case qzX => k_asm); (case qzN => k_asm); (case qzT => k_asm); (case qzK1 => first | exact rfl | assumption); (case qzK => first | exact rfl | assumption)))); (case qzp => exact Stands.of (by k_asm) (by fail "mine sub") (by fail "mine sub")); (case qzd => ktr_room); (case qzu => ktr_units); (case qhC => ((((simp only [ofN_length]); intro p91 t91 h91 h92; (refine' CtP.mkL (fun _ hp => hp _ (List.mem_append_left _ mf)) SR ?qk9 ?qkB ?qkz ?qc2 ?qc3 ?qc4 ?qc5 ?_; (case qk9 => rfl); (case qc5 => decide +kernel); (case qkB => exact locs rfl); (case qkz => dsimp only [List.map, List.zip, List.zipWith, List.reverse, List.reverseAux]; try exact rfl); (case qc2 => exact rfl); (case qc3 => exact rfl); (case qc4 => exact rfl)); intro p loose mean mg mb dp un gd env outer base sh sg sd so Q E hdp hu hp hret L₁ h₁ tk₁ mm F₁ N₁ B₁ X₁ T₁ A₁ ek gk; have bd : Bnd mm := Bnd.mk; have g6 := hp _ (List.mem_append_right _ k6); have g5 := hp _ (List.mem_append_right _ k5); have g4 := hp _ (List.mem_append_right _ k4); have g3 := hp _ (List.mem_append_right _ k3); have g2 := hp _ (List.mem_append_right _ k2); have g1 := hp _ (List.mem_append_right _ k1))); repeat' ((fail_if_success (with_reducible show Q _ _)); first | fail "unf" | ((with_reducible show GoodW _ _ _ _ _ _ _); first | ((k_dflt (refine' goodW_bool ?qzg1 ?qzg2 ?qzg3 ?qzg4 ?qzg5; (case qzg1 => k_asm); (case qzg2 => k_asm); (case qzg3 => (intro _; kernel_rfl!)); (case qzg4 => kernel_rfl!); (case qzg5 => first | rfl | kernel_rfl!); ))) | fail) | ((with_reducible show wpAny _ _ (eval (Expr.Name _ _) _) _ _ _); first | ((k_here; first | ((with_reducible show wpAny _ _ (eval (Expr.Name _ _) (compEnvC _ _ _ _)) _ _ _); k_dflt (first | (refine' kcf_cell ?qzN ?qzc ?qzm ?qzd ?_ ?qza ?qzb; (case qza => rfl); (case qzb => rfl); (case qzN => k_asm); (case qzc => rfl); (case qzm => fail "mine mem2"); (case qzd => k_asm); k_whole) | (refine' LCgL.ld_own ?qza ?qzb ?qzc ?qzd ?_; (case qza => k_asm); (case qzb => k_mem); (case qzc => assumption); (case qzd => assumption); k_whole) | (refine' LCgL.ld_global ?qza ?qzb ?qzc ?qzd ?_; (case qza => k_asm); (case qzb => k_asm); (case qzc => k_asm); (case qzd => k_is); k_whole) | (refine' LCgL.ld_built ?qza ?qzb ?qzc ?qzd ?qze ?qzf ?_; (case qza => k_asm); (case qzb => k_asm); (case qzc => k_asm); (case qzd => k_is); (case qze => boot_by_name); (case qzf => decide); k_whole))) | k_dflt (first | (refine' name_L ?qzF ?qzv ?qzo ?_; (case qzo => decide +kernel); (case qzF => k_asm); (case qzv => rfl); k_whole) | (refine' name_G ?qzF ?qzX ?qzT ?qze ?qzo ?_; (case qzo => decide +kernel); (case qzF => k_asm); (case qzX => k_asm); (case qzT => k_asm); (case qze => k_is); k_whole) | (refine' name_C ?qzN ?qzc ?qzm ?qzd ?qzo ?_; (case qzo => decide +kernel); (case qzN => k_asm); (case qzc => rfl); (case qzm => fail "mine mem2"); (case qzd => k_asm); k_whole) | (refine' name_I ?qzF ?qzX ?qzT ?qze ?qzv ?qzn ?qzo ?_; (case qzo => decide +kernel); (case qzF => k_asm); (case qzX => k_asm); (case qzT => k_asm); (case qze => k_is); (case qzv => boot_fast); (case qzn => decide); k_whole)))) | ((k_here; (with_reducible show wpAny _ _ (eval (Expr.Name _ _) (compEnvC _ _ _ _)) _ _ _); k_dflt (refine' kcf_cell ?qN ?qc ?qm ?qd ?_ ?qa ?qb; (case qa => rfl); (case qb => rfl); (case qN => k_asm); (case qc => rfl); (case qm => fail "mine mem2"); (case qd => k_asm); k_whole))) | ((k_here; k_dflt (refine' nameX_G ?qF ?qc ?qg ?qd ?_ ?qa ?qb; (case qa => rfl); (case qb => rfl); (case qF => k_asm); (case qc => rfl); (case qg => first | exact g6 | exact g5 | exact g4 | exact g3 | exact g2 | exact g1); (case qd => k_asm); k_whole))) | ((k_here; k_dflt (refine' nameX_C ?qN ?qc ?qm ?qd ?_ ?qa ?qb; (case qa => rfl); (case qb => rfl); (case qN => k_asm); (case qc => rfl); (case qm => fail "mine mem2"); (case qd => k_asm); k_whole))) | fail) | ((with_reducible show wpAny _ _ (callWith _ (Value.ref _) _ _ _) _ _ _); first | ((k_here; k_dflt (first | (refine' callWith_K ?qk1 ?qk2 ?_; (case qk1 => k_asm); (case qk2 => k_is); k_whole) | (refine' callWith_K0F ?qk0 ?qk1 ?qk2 ?_; (case qk0 => k_asm); (case qk1 => k_asm); (case qk2 => k_is); k_whole) | (refine' callWith_KW ?qk1 ?qk2 ?qk3 ?_; (case qk1 => k_asm); (case qk2 => k_is); (case qk3 => exact rfl); k_whole) | (refine' callWith_KW0 ?qk1 ?qk2 ?qk3 ?_; (case qk1 => k_asm); (case qk2 => k_is); (case qk3 => exact rfl); k_whole)))) | ((k_here; k_dflt (refine' callWith_K ?qk1 ?qk2 ?_; (case qk1 => k_asm); (case qk2 => k_is); k_whole))) | fail) | ((with_reducible show EndX _ _ _ _ _ _ _); first | ((k_dflt ((refine' jt_out ?qjF ?qjN AA n1 n2 ?qjm ⟨KB.four hkb, LoopI.up hLI ?qjs AA.1 AA.2.2 (TabSt.up TS ?qjt)⟩; (case qjF => k_asm); (case qjN => first | k_asm | exact drop1 (by k_asm) | exact drop1 (drop1 (by k_asm)) | exact drop1 (drop1 (drop1 (by k_asm))) | exact drop1 (drop1 (drop1 (drop1 (by k_asm)))) | exact drop1 (drop1 (drop1 (drop1 (drop1 (by k_asm)))))); (case qjm => ((intro z h1 h2; (try dsimp +zetaDelta only); (simp only [List.contains_cons, List.contains_nil, Bool.or_false, Bool.or_eq_false_iff, beq_eq_false_iff_ne, ne_eq] at h1 h2); (simp [h1, h2]; done)))); (case qjs => fail "mine sub"); (case qjt => fail "mine sub"))))) | fail) | ((with_reducible show wpAny _ _ (compareOp CmpOp.NotEq _ _) _ _ _); first | ((k_here; k_dflt ((refine ne_find (FindIn.at (reS (by assumption) (by assumption)) (by k_asm) (by fail "mine sub")) (FindIn.at (by assumption) (by k_asm) (by fail "mine sub")) (by ktr_units) ?_)))) | fail) | ((with_reducible show wpAny _ _ (compareOp CmpOp.NotEq (Value.ref _) (Value.ref _)) _ _ _); first | ((k_here; (with_reducible show wpAny _ _ (compareOp CmpOp.NotEq (Value.ref _) (Value.ref _)) _ _ _); k_dflt ((refine ne_finds (by k_asm) (by fail "mine mem2") (by fail "mine mem2") rfl rfl rfl rfl VT hf9 (by fail "mine sub") (by fail "mine sub") (by ktr_units) ?_)))) | fail) | ((with_reducible show LCg.CompSrc _ _ _ _ _ _ _ _ _ _ _ _ _ _); first | ((k_here; k_dflt (((rename News _ _ _ _ => lN'); (refine LCg.CompSrc.ledger (by rfl) (by k_asm) lN' (by fail "mine mem2") (Nat.le_of_ble_eq_true rfl) ?_; intro g'; refine comp_moved' VT VD (fun i9 o9 v9 ys9 fs9 I' oI' C' oC' D' m' h' tk' E' ho9 hv9 hI9 hC' hx' F' N' off9 ne' => ?_) (fun ys9 fs9 hf9 => ?_)))); (all_goals (try k_fold)))) | fail) | ((with_reducible show wpAny _ _ (eval (Expr.Lambda _ _ _ _) _) _ _ _); first | ((k_here; k_dflt (((refine' kla_eval ?qd0 ?_; (case qd0 => exact rfl)); (refine' lam_come ?qF ?qN ?qT ?qC ?qcd (rem5 nT nD hdk9 n1 AA.2.2) TS ?qhq ?qcl ?_; (case qF => k_asm); (case qN => k_asm); (case qT => k_asm); (case qcd => exact rfl); (case qC => (rw [hPT]; kn_code)); (case qhq => first | exact rfl | decide +kernel); (case qcl => exact rfl)); (intro f9 c9 ctv9 pt9 ls h' tk' F9 N9 cK cP cN mf SR TS9; replace AA := up3L AA cN cP (by fail "mine mem2") (by fail "mine mem2"); replace aT := aT_up (o' := tabObj pt9) aT cN (by fail "mine mem2"); replace N9 := ins5 cK (rot5 N9); clear cK cP cN; replace TS := TS9); (try k_sweep); (try dsimp only); (try k_fold))))) | fail) | ((with_reducible show wpAny _ _ (call (Value.builtin "list.append") _) _ _ _); first | ((k_here; (with_reducible show wpAny _ _ (call (Value.builtin _) [Value.ref _, _]) _ _ _); k_dflt (((refine' append_K ?qk1 ?qk2 ?qk3 ?_ ?qz; (case qk1 => k_asm); (case qk2 => k_asm); (case qk3 => first | exact Upd.head (AllNe.all aT) | exact Upd.head (AllNe.all aD)); (case qz => exact Nat.le_of_ble_eq_true rfl); k_whole); intro h' F' N'; (try k_sweep))))) | fail) | ((with_reducible show wpAny _ _ (call (Value.builtin "len") _) _ _ _); first | ((k_here; (with_reducible show wpAny _ _ (call (Value.builtin "len") [Value.str _ _]) _ _ _); k_dflt (first | refine len_text b8 (by decide) ?_ | refine len_text b7 (by decide) ?_))) | fail) | ((with_reducible show wpAny _ _ (call (Value.type _) [Value.ref _]) _ _ _); first | ((k_here; (with_reducible show wpAny _ _ (call (Value.type _) [Value.ref _]) _ _ _); k_dflt (refine' list_ofLst ?qF ?qN ?qb ?qi ?ql ?qz ?_; (case qF => k_asm); (case qN => k_asm); (case qb => k_mem); (case qi => assumption); (case ql => assumption); (case qz => decide)); intro D' c' h' F' N' l1; (try k_lt l1); (try k_sweep))) | fail) | ((with_reducible show LCg.CompEnd _ _ _ _ _ _ _ _ _ _ _ _ _ _); first | ((k_here; k_dflt (refine keep_end (by k_asm) N' off' trivial (OrdR.step hi' hc' (by rfl))))) | fail) | ((with_reducible show TxtSrc _ _ _ _ _ _ _ _ _ _ _ _ _ _); first | ((k_here; k_dflt (((rename News _ _ _ _ => lN'); (refine ⟨_, _, _, rfl, rfl, by k_asm, lN', by exact txt_size (by assumption) (by decide), fun g' => comp_ords (fun i' c' ys' u' I' oI' C' oC' D' m' h' tk' E' hc' hm' hi' hC' hx' F' N' off' ne' => ?_) (fun ys' hy' => ?_)⟩))))) | fail) | ((with_reducible show wpAny _ _ (call (Value.builtin "str.join") _) _ _ _); first | ((k_here; first | (k_dflt (refine' join_drawn ?qk1 hR7 ?qk2 ?_; (case qk1 => exact News.isList (by k_asm) (by k_mem)); (case qk2 => exact len_r (by assumption) (by assumption) (by decide))); intro _ _) | (k_dflt (refine' join_drawn ?qk1 hR8 ?qk2 ?_; (case qk1 => exact News.isList (by k_asm) (by k_mem)); (case qk2 => exact len_r (by assumption) (by assumption) (by decide))); intro _ _) | fail)) | fail) | ((with_reducible show wpAny _ _ (call (Value.ref _) _) _ _ _); first | ((k_here; (first | (with_reducible show wpAny _ _ (call (Value.ref 795) _) _ _ _) | (with_reducible show wpAny _ _ (call (Value.ref 626) _) _ _ _)); k_dflt (refine' call_cls ?qk1 ?qk2 ?qk3 ?qk4 ?qk5 ?qk6 ?_; (case qk1 => k_asm); (case qk2 => k_asm); (case qk3 => k_asm); (case qk4 => k_is); (case qk5 => k_is); (case qk6 => k_is); k_whole; intro x' d' h' F' N' l1 l2; (try k_lt l1); (try k_lt2 l2); (try k_sweep); k_enter; ))) | ((k_here; (with_reducible show wpAny _ _ (call (Value.ref 672) _) _ _ _); k_dflt (((fail "fq"; refine' CtP.use (match_seg hR7 hiQ hy' b7 b8 ?qzs1 ?qzs2 _ _ _ _ _) ?qzB ?qzF ?qzX ?qzN ?qzT ?qzK1 ?qzK ?qzp ?qzd ?qzu ?_); ((((case qzB => k_asm); (case qzF => k_asm); (case qzX => k_asm); (case qzN => k_asm); (case qzT => k_asm); (case qzK1 => first | exact rfl | assumption); (case qzK => first | exact rfl | assumption)))); (case qzs1 => assumption); (case qzs2 => assumption); (case qzp => exact ⟨ints_at (by k_asm) (by fail "mine mem2") hiQ, ints_at (by k_asm) (by fail "mine mem2") hy'⟩); (case qzd => ktr_room); (case qzu => ktr_units); ((((intro cv ch ctk cS F9 N9 cl cL cP; obtain ⟨fs, cf, cK, cN⟩ := PF.come (by k_asm) (by k_asm) cP; clear cP cS cl cL; (replace AA := up3 AA cN (by fail "mine mem2") (by fail "mine mem2") (by fail "mine mem2")); (try (replace aD := AllNe.ins3 aD (cN (du, _) (by fail "mine mem2")))); (try (replace aT := AllNe.ins4 aT (cN (td, _) (by fail "mine mem2")))); (first | (replace N9 := ins8 cK N9) | (replace N9 := ins7 cK N9) | (replace N9 := ins6 cK N9) | (replace N9 := ins5 cK N9) | (replace N9 := ins4 cK N9) | (replace N9 := ins3 cK N9)); clear cK cN); (try k_sweep); (try dsimp only); (try k_fold)))))))) | ((k_here; (with_reducible show wpAny _ _ (call (Value.ref 679) _) _ _ _); k_dflt (((fail "fq"; refine' CtP.use (quote_seg SI hR7 b7 _) ?qzB ?qzF ?qzX ?qzN ?qzT ?qzK1 ?qzK ?qzp ?qzd ?qzu ?_); ((((case qzB => k_asm); (case qzF => k_asm); (case qzX => k_asm); (case qzN => k_asm); (case qzT => k_asm); (case qzK1 => first | exact rfl | assumption); (case qzK => first | exact rfl | assumption)))); (case qzp => exact SegP.use SI (by k_asm) (by fail "mine sub")); (case qzd => ktr_room); (case qzu => ktr_units); (intro cv ch ctk cS F9 N9 cl cL cP; obtain ⟨lQ, wsQ, nQ, cV, cQ, hiQ, cR⟩ := cP; obtain ⟨NS, dQ⟩ := fresh_onto (by k_asm) (by k_asm) N9 cQ cR; clear cl cL cS cQ cR N9; subst cV; (try k_sweep); (try dsimp only); (try k_fold)))))) | ((k_here; (with_reducible show wpAny _ _ (call (Value.ref 833) _) _ _ _); k_dflt (((fail "fq"; refine' CtP.use (law_moved_c _ _ o9 _ _) ?qzB ?qzF ?qzX ?qzN ?qzT ?qzK1 ?qzK ?qzp ?qzd ?qzu ?_); ((((case qzB => k_asm); (case qzF => k_asm); (case qzX => k_asm); (case qzN => k_asm); (case qzT => k_asm); (case qzK1 => first | exact rfl | assumption); (case qzK => first | exact rfl | assumption)))); (case qzp => exact FindIn.at hv9 (by k_asm) (by fail "mine sub")); (case qzd => ktr_room); (case qzu => ktr_units); (intro cv ch ctk cS F9 N9 cl cL cP; exact moved_end (by k_asm) F9 (by k_asm) N9 off9 cP ho9 hI9 (fun fs => src_at (by fail "mine mem2") fs)))))) | ((k_here; (with_reducible show wpAny _ _ (call (Value.ref 651) _) _ _ _); k_dflt (((fail "fq"; refine' CtP.use (searchB_seg SV SI _ _ _ _ _ _) ?qzB ?qzF ?qzX ?qzN ?qzT ?qzK1 ?qzK ?qzp ?qzd ?qzu ?_); ((((case qzB => k_asm); (case qzF => k_asm); (case qzX => k_asm); (case qzN => k_asm); (case qzT => k_asm); (case qzK1 => first | exact rfl | assumption); (case qzK => first | exact rfl | assumption)))); (case qzp => exact pre_lam hp (Fr.keep (by k_asm)) SV SI psl (by exact strongP h91 h92 b8 (by assumption) (by assumption)) (by exact strongB (by assumption) (by assumption))); (case qzd => ktr_room); (case qzu => ktr_units); (intro cv ch ctk cS F9 N9 cl cL cP; exact hret _ _ _ (Fr.keep F9) (PF.back (Fr.keep (by k_asm)) cP)))))) | ((k_here; (with_reducible show wpAny _ _ (call (Value.ref 644) _) _ _ _); k_dflt (((fail "fq"; refine' CtP.use (searchF_seg SV SI _ _ _ _ _ _) ?qzB ?qzF ?qzX ?qzN ?qzT ?qzK1 ?qzK ?qzp ?qzd ?qzu ?_); ((((case qzB => k_asm); (case qzF => k_asm); (case qzX => k_asm); (case qzN => k_asm); (case qzT => k_asm); (case qzK1 => first | exact rfl | assumption); (case qzK => first | exact rfl | assumption)))); (case qzp => exact pre_lam hp (Fr.keep (by k_asm)) SV SI psl (by exact strongP h91 h92 b8 (by assumption) (by assumption)) (by exact strongN b8 (by assumption) (by assumption))); (case qzd => ktr_room); (case qzu => ktr_units); (intro cv ch ctk cS F9 N9 cl cL cP; exact hret _ _ _ (Fr.keep F9) (PF.back (Fr.keep (by k_asm)) cP)))))) | ((k_here; (with_reducible show wpAny _ _ (call (Value.ref 651) _) _ _ _); k_dflt (((fail "fq"; refine' CtP.use (searchB_seg SV SI _ _ _ _ _ _) ?qzB ?qzF ?qzX ?qzN ?qzT ?qzK1 ?qzK ?qzp ?qzd ?qzu ?_); ((((case qzB => k_asm); (case qzF => k_asm); (case qzX => k_asm); (case qzN => k_asm); (case qzT => k_asm); (case qzK1 => first | exact rfl | assumption); (case qzK => first | exact rfl | assumption)))); (case qzp => exact pre_search SV SI (by k_asm) (by fail "mine sub") psl (by exact rng_ok (by assumption) (by assumption) (by decide) b8 (by assumption) (by assumption)) (by exact rng_ok (by assumption) (by assumption) (by decide) b8 (by assumption) (by assumption))); (case qzd => ktr_room); (case qzu => ktr_units); ((((intro cv ch ctk cS F9 N9 cl cL cP; obtain ⟨fs, cf, cK, cN⟩ := PF.come (by k_asm) (by k_asm) cP; clear cP cS cl cL; (replace AA := up3 AA cN (by fail "mine mem2") (by fail "mine mem2") (by fail "mine mem2")); (try (replace aD := AllNe.ins3 aD (cN (du, _) (by fail "mine mem2")))); (try (replace aT := AllNe.ins4 aT (cN (td, _) (by fail "mine mem2")))); (first | (replace N9 := ins8 cK N9) | (replace N9 := ins7 cK N9) | (replace N9 := ins6 cK N9) | (replace N9 := ins5 cK N9) | (replace N9 := ins4 cK N9) | (replace N9 := ins3 cK N9)); clear cK cN); (try k_sweep); (try dsimp only); (try k_fold)))))))) | ((k_here; (with_reducible show wpAny _ _ (call (Value.ref 644) _) _ _ _); k_dflt (((fail "fq"; refine' CtP.use (searchF_seg SV SI _ _ _ _ _ _) ?qzB ?qzF ?qzX ?qzN ?qzT ?qzK1 ?qzK ?qzp ?qzd ?qzu ?_); ((((case qzB => k_asm); (case qzF => k_asm); (case qzX => k_asm); (case qzN => k_asm); (case qzT => k_asm); (case qzK1 => first | exact rfl | assumption); (case qzK => first | exact rfl | assumption)))); (case qzp => exact pre_search SV SI (by k_asm) (by fail "mine sub") psl (by exact rng_ok (by assumption) (by assumption) (by decide) b8 (by assumption) (by assumption)) (by exact rng_ok (by assumption) (by assumption) (by decide) b8 (by assumption) (by assumption))); (case qzd => ktr_room); (case qzu => ktr_units); ((((intro cv ch ctk cS F9 N9 cl cL cP; obtain ⟨fs, cf, cK, cN⟩ := PF.come (by k_asm) (by k_asm) cP; clear cP cS cl cL; (replace AA := up3 AA cN (by fail "mine mem2") (by fail "mine mem2") (by fail "mine mem2")); (try (replace aD := AllNe.ins3 aD (cN (du, _) (by fail "mine mem2")))); (try (replace aT := AllNe.ins4 aT (cN (td, _) (by fail "mine mem2")))); (first | (replace N9 := ins8 cK N9) | (replace N9 := ins7 cK N9) | (replace N9 := ins6 cK N9) | (replace N9 := ins5 cK N9) | (replace N9 := ins4 cK N9) | (replace N9 := ins3 cK N9)); clear cK cN); (try k_sweep); (try dsimp only); (try k_fold)))))))) | ((k_here; (with_reducible show wpAny _ _ (call (Value.ref 828) _) _ _ _); k_dflt (((fail "fq"; refine' CtP.use (often_seg SS9 _ _ _ _ _ _ _ _ _ ?qzs1) ?qzB ?qzF ?qzX ?qzN ?qzT ?qzK1 ?qzK ?qzp ?qzd ?qzu ?_); ((((case qzB => k_asm); (case qzF => k_asm); (case qzX => k_asm); (case qzN => k_asm); (case qzT => k_asm); (case qzK1 => first | exact rfl | assumption); (case qzK => first | exact rfl | assumption)))); (case qzs1 => first | exact cnt_ok (by assumption) (by assumption) | exact cnt_ok' (by assumption) (by assumption)); (case qzp => exact ⟨SegP.use SS9 (by k_asm) (by fail "mine sub"), ssl⟩); (case qzd => ktr_room); (case qzu => ktr_units); ((((intro cv ch ctk cS F9 N9 cl cL cP; obtain ⟨fs, cf, cK, cN⟩ := PF.come (by k_asm) (by k_asm) cP; clear cP cS cl cL; (replace AA := up3 AA cN (by fail "mine mem2") (by fail "mine mem2") (by fail "mine mem2")); (try (replace aD := AllNe.ins3 aD (cN (du, _) (by fail "mine mem2")))); (try (replace aT := AllNe.ins4 aT (cN (td, _) (by fail "mine mem2")))); (first | (replace N9 := ins8 cK N9) | (replace N9 := ins7 cK N9) | (replace N9 := ins6 cK N9) | (replace N9 := ins5 cK N9) | (replace N9 := ins4 cK N9) | (replace N9 := ins3 cK N9)); clear cK cN); (try k_sweep); (try dsimp only); (try k_fold)))))))) | ((k_here; (with_reducible show wpAny _ _ (call (Value.ref 821) _) _ _ _); k_dflt (((fail "fq"; refine' CtP.use (back_seg SS9 _ _ _ _ _ _ _) ?qzB ?qzF ?qzX ?qzN ?qzT ?qzK1 ?qzK ?qzp ?qzd ?qzu ?_); ((((case qzB => k_asm); (case qzF => k_asm); (case qzX => k_asm); (case qzN => k_asm); (case qzT => k_asm); (case qzK1 => first | exact rfl | assumption); (case qzK => first | exact rfl | assumption)))); (case qzp => exact ⟨SegP.use SS9 (by k_asm) (by fail "mine sub"), ssl⟩); (case qzd => ktr_room); (case qzu => ktr_units); ((((intro cv ch ctk cS F9 N9 cl cL cP; obtain ⟨fs, cf, cK, cN⟩ := PF.come (by k_asm) (by k_asm) cP; clear cP cS cl cL; (replace AA := up3 AA cN (by fail "mine mem2") (by fail "mine mem2") (by fail "mine mem2")); (try (replace aD := AllNe.ins3 aD (cN (du, _) (by fail "mine mem2")))); (try (replace aT := AllNe.ins4 aT (cN (td, _) (by fail "mine mem2")))); (first | (replace N9 := ins8 cK N9) | (replace N9 := ins7 cK N9) | (replace N9 := ins6 cK N9) | (replace N9 := ins5 cK N9) | (replace N9 := ins4 cK N9) | (replace N9 := ins3 cK N9)); clear cK cN); (try k_sweep); (try dsimp only); (try k_fold)))))))) | ((k_here; (with_reducible show wpAny _ _ (call (Value.ref 816) _) _ _ _); k_dflt (((fail "fq"; refine' CtP.use (ahead_seg SS9 _ _ _ _ _ _ _) ?qzB ?qzF ?qzX ?qzN ?qzT ?qzK1 ?qzK ?qzp ?qzd ?qzu ?_); ((((case qzB => k_asm); (case qzF => k_asm); (case qzX => k_asm); (case qzN => k_asm); (case qzT => k_asm); (case qzK1 => first | exact rfl | assumption); (case qzK => first | exact rfl | assumption)))); (case qzp => exact ⟨SegP.use SS9 (by k_asm) (by fail "mine sub"), ssl⟩); (case qzd => ktr_room); (case qzu => ktr_units); ((((intro cv ch ctk cS F9 N9 cl cL cP; obtain ⟨fs, cf, cK, cN⟩ := PF.come (by k_asm) (by k_asm) cP; clear cP cS cl cL; (replace AA := up3 AA cN (by fail "mine mem2") (by fail "mine mem2") (by fail "mine mem2")); (try (replace aD := AllNe.ins3 aD (cN (du, _) (by fail "mine mem2")))); (try (replace aT := AllNe.ins4 aT (cN (td, _) (by fail "mine mem2")))); (first | (replace N9 := ins8 cK N9) | (replace N9 := ins7 cK N9) | (replace N9 := ins6 cK N9) | (replace N9 := ins5 cK N9) | (replace N9 := ins4 cK N9) | (replace N9 := ins3 cK N9)); clear cK cN); (try k_sweep); (try dsimp only); (try k_fold)))))))) | ((k_here; (with_reducible show wpAny _ _ (call (Value.ref 806) _) _ _ _); k_dflt (((fail "fq"; refine' CtM.useR (draw_seg SD _ dk _ _ _ _ _ (KB.ok kbT ?qzs2) ?qzs3) ?qzB ?qzF ?qzX ?qzN ?qzT ?qzK1 ?qzK (Rems.cons (Rem.head (AllNe.all A0)) Rems.nil) ?qzp ?qzd ?qzu ?_); (case qzB => (k_asm)); (case qzF => (k_asm)); (case qzX => (k_asm)); (case qzN => (first | k_asm | exact drop1 (by k_asm))); (case qzT => (k_asm)); (case qzK1 => (first | exact rfl | assumption)); (case qzK => (first | exact rfl | assumption)); (case qzs2 => decide); (case qzs3 => first | exact ⟨by decide, by decide⟩ | exact many_ok' b8 (by decide) (by decide)); (case qzp => (intro g2 G2 S2; have z9 := SegP.onG SD (by k_asm) (by first | fail "mine sub" | fail) A1 G2; exact ⟨z9, len40⟩)); (case qzd => (ktr_room)); (case qzu => (ktr_units)); (intro cv ch ctk cG F9 N9 cO cP; obtain ⟨r9, t9, tk9, n9, cV, r91, r92, cD⟩ := cP; replace N9 := news_put N9 cD (cO _ (List.Mem.head _)); replace kbT := KB.succ kbT; clear cG cO cD; subst cV; (try k_sweep); (try dsimp only); (try k_fold)))))) | ((k_here; (with_reducible show wpAny _ _ (call (Value.ref 811) _) _ _ _); k_dflt (((fail "fq"; refine' CtP.use (stands_c _ _ _ _ _ _ (str_len b8) (str_len b7)) ?qzB ?qzF ?qzX ?qzN ?qzT ?qzK1 ?qzK trivial ?qzd ?qzu ?_); (case qzB => k_asm); (case qzF => k_asm); (case qzX => k_asm); (case qzN => k_asm); (case qzT => k_asm); (case qzK1 => first | exact rfl | assumption); (case qzK => first | exact rfl | assumption); (case qzd => ktr_room); (case qzu => ktr_units); (intro cv ch ctk cS F9 N9 cl cL cP; obtain ⟨lS, wsS, nS, cV, cQ, hiS, cR⟩ := cP; obtain ⟨NS, dS⟩ := fresh_onto (by k_asm) (by k_asm) N9 cQ cR; clear cl cL cS cQ cR N9; subst cV; (try k_sweep); (try dsimp only); (try k_fold)))))) | ((k_here; (with_reducible show wpAny _ _ (call (Value.ref 806) _) _ _ _); k_dflt (((fail "fq"; refine' CtM.useR (draw_c _ _ _ _ _ _ _ _ _ (KB.ok ?qzs1 ?qzs2) ⟨?qzs3, ?qzs4⟩) ?qzB ?qzF ?qzX ?qzN ?qzT ?qzK1 ?qzK ?qzR ?qzp ?qzd ?qzu ?_); (case qzB => (k_asm)); (case qzF => (k_asm)); (case qzX => (k_asm)); (case qzN => (k_asm)); (case qzT => (k_asm)); (case qzK1 => (first | exact rfl | assumption)); (case qzK => (first | exact rfl | assumption)); (case qzR => (fail "mine rems")); (case qzs1 => (fail "mine kb")); (case qzs2 => decide); (case qzs3 => first | decide | omega); (case qzs4 => first | decide | omega); (case qzp => (intro g2 G2 S2; exact ⟨⟨_, ⟨_, G2 _ _ (News.get (by k_asm) (by k_mem)) (by simp; k_ne), rfl, _, rfl⟩, by assumption⟩, len40⟩)); (case qzd => (ktr_room)); (case qzu => (ktr_units)); (intro cv ch ctk cG F9 N9 cO cP; obtain ⟨r9, t9, tk9, n9, cV, r91, r92, cD⟩ := cP; replace N9 := news_put N9 cD (cO _ (List.Mem.head _)); clear cG cO cD; subst cV; (try k_sweep); (try dsimp only); (try k_fold)); )))) | fail) | walk1 | (k_end; wrow_close) | (dsimp only; walk1) | (leave1; try dsimp only) | (dsimp only) | fail "no step"))); ((((intro cv ch ctk cS F9 N9 cl cL cP; obtain ⟨fs, cf, cK, cN⟩ := PF.come (by k_asm) (by k_asm) cP; clear cP cS cl cL; (replace AA := up3 AA cN (by fail "mine mem2") (by fail "mine mem2") (by fail "mine mem2")); (try (replace aD := AllNe.ins3 aD (cN (du, _) (by fail "mine mem2")))); (try (replace aT := AllNe.ins4 aT (cN (td, _) (by fail "mine mem2")))); (first | (replace N9 := ins8 cK N9) | (replace N9 := ins7 cK N9) | (replace N9 := ins6 cK N9) | (replace N9 := ins5 cK N9) | (replace N9 := ins4 cK N9) | (replace N9 := ins3 cK N9)); clear cK cN); (try k_sweep); (try dsimp only); (try k_fold)))))))) | fail); replace SV := SegP.up SV (fun q hq => List.mem_append_right ls hq); replace SI := SegP.up SI (fun q hq => List.mem_append_right ls hq); replace SS9 := SegP.up SS9 (fun q hq => List.mem_append_right ls hq); replace k1 := List.mem_append_right ls k1; replace k2 := List.mem_append_right ls k2; replace k3 := List.mem_append_right ls k3; replace k4 := List.mem_append_right ls k4; replace k5 := List.mem_append_right ls k5; replace k6 := List.mem_append_right ls k6))) | ((k_here; (with_reducible show wpAny _ _ (call (Value.ref 651) _) _ _ _); k_dflt (((fail "fq"; refine' CtP.use (searchB_seg SV SI _ _ _ _ _ _) ?qzB ?qzF ?qzX ?qzN ?qzT ?qzK1 ?qzK ?qzp ?qzd ?qzu ?_); ((((case qzB => k_asm); (case qzF => k_asm); (case qzX => k_asm); (case qzN => k_asm); (case qzT => k_asm); (case qzK1 => first | exact rfl | assumption); (case qzK => first | exact rfl | assumption)))); (case qzp => exact pre_lam hp (Fr.keep (by k_asm)) SV SI psl (by exact strongP h91 h92 b8 (by assumption) (by assumption)) (by exact strongB (by assumption) (by assumption))); (case qzd => ktr_room); (case qzu => ktr_units); (intro cv ch ctk cS F9 N9 cl cL cP; exact hret _ _ _ (Fr.keep F9) (PF.back (Fr.keep (by k_asm)) cP)))))) | ((k_here; (with_reducible show wpAny _ _ (call (Value.ref 644) _) _ _ _); k_dflt (((fail "fq"; refine' CtP.use (searchF_seg SV SI _ _ _ _ _ _) ?qzB ?qzF ?qzX ?qzN ?qzT ?qzK1 ?qzK ?qzp ?qzd ?qzu ?_); ((((case qzB => k_asm); (case qzF => k_asm); (case qzX => k_asm); (case qzN => k_asm); (case qzT => k_asm); (case qzK1 => first | exact rfl | assumption); (case qzK => first | exact rfl | assumption)))); (case qzp => exact pre_lam hp (Fr.keep (by k_asm)) SV SI psl (by exact strongP h91 h92 b8 (by assumption) (by assumption)) (by exact strongN b8 (by assumption) (by assumption))); (case qzd => ktr_room); (case qzu => ktr_units); (intro cv ch ctk cS F9 N9 cl cL cP; exact hret _ _ _ (Fr.keep F9) (PF.back (Fr.keep (by k_asm)) cP)))))) | ((k_here; (with_reducible show wpAny _ _ (call (Value.ref 651) _) _ _ _); k_dflt (((fail "fq"; refine' CtP.use (searchB_seg SV SI _ _ _ _ _ _) ?qzB ?qzF ?qzX ?qzN ?qzT ?qzK1 ?qzK ?qzp ?qzd ?qzu ?_); ((((case qzB => k_asm); (case qzF => k_asm); (case qzX => k_asm); (case qzN => k_asm); (case qzT => k_asm); (case qzK1 => first | exact rfl | assumption); (case qzK => first | exact rfl | assumption)))); (case qzp => exact pre_search SV SI (by k_asm) (by fail "mine sub") psl (by exact rng_ok (by assumption) (by assumption) (by decide) b8 (by assumption) (by assumption)) (by exact rng_ok (by assumption) (by assumption) (by decide) b8 (by assumption) (by assumption))); (case qzd => ktr_room); (case qzu => ktr_units); ((((intro cv ch ctk cS F9 N9 cl cL cP; obtain ⟨fs, cf, cK, cN⟩ := PF.come (by k_asm) (by k_asm) cP; clear cP cS cl cL; (replace AA := up3 AA cN (by fail "mine mem2") (by fail "mine mem2") (by fail "mine mem2")); (try (replace aD := AllNe.ins3 aD (cN (du, _) (by fail "mine mem2")))); (try (replace aT := AllNe.ins4 aT (cN (td, _) (by fail "mine mem2")))); (first | (replace N9 := ins8 cK N9) | (replace N9 := ins7 cK N9) | (replace N9 := ins6 cK N9) | (replace N9 := ins5 cK N9) | (replace N9 := ins4 cK N9) | (replace N9 := ins3 cK N9)); clear cK cN); (try k_sweep); (try dsimp only); (try k_fold)))))))) | ((k_here; (with_reducible show wpAny _ _ (call (Value.ref 644) _) _ _ _); k_dflt (((fail "fq"; refine' CtP.use (searchF_seg SV SI _ _ _ _ _ _) ?qzB ?qzF ?qzX ?qzN ?qzT ?qzK1 ?qzK ?qzp ?qzd ?qzu ?_); ((((case qzB => k_asm); (case qzF => k_asm); (case qzX => k_asm); (case qzN => k_asm); (case qzT => k_asm); (case qzK1 => first | exact rfl | assumption); (case qzK => first | exact rfl | assumption)))); (case qzp => exact pre_search SV SI (by k_asm) (by fail "mine sub") psl (by exact rng_ok (by assumption) (by assumption) (by decide) b8 (by assumption) (by assumption)) (by exact rng_ok (by assumption) (by assumption) (by decide) b8 (by assumption) (by assumption))); (case qzd => ktr_room); (case qzu => ktr_units); ((((intro cv ch ctk cS F9 N9 cl cL cP; obtain ⟨fs, cf, cK, cN⟩ := PF.come (by k_asm) (by k_asm) cP; clear cP cS cl cL; (replace AA := up3 AA cN (by fail "mine mem2") (by fail "mine mem2") (by fail "mine mem2")); (try (replace aD := AllNe.ins3 aD (cN (du, _) (by fail "mine mem2")))); (try (replace aT := AllNe.ins4 aT (cN (td, _) (by fail "mine mem2")))); (first | (replace N9 := ins8 cK N9) | (replace N9 := ins7 cK N9) | (replace N9 := ins6 cK N9) | (replace N9 := ins5 cK N9) | (replace N9 := ins4 cK N9) | (replace N9 := ins3 cK N9)); clear cK cN); (try k_sweep); (try dsimp only); (try k_fold)))))))) | ((k_here; (with_reducible show wpAny _ _ (call (Value.ref 828) _) _ _ _); k_dflt (((fail "fq"; refine' CtP.use (often_seg SS9 _ _ _ _ _ _ _ _ _ ?qzs1) ?qzB ?qzF ?qzX ?qzN ?qzT ?qzK1 ?qzK ?qzp ?qzd ?qzu ?_); ((((case qzB => k_asm); (case qzF => k_asm); (case qzX => k_asm); (case qzN => k_asm); (case qzT => k_asm); (case qzK1 => first | exact rfl | assumption); (case qzK => first | exact rfl | assumption)))); (case qzs1 => first | exact cnt_ok (by assumption) (by assumption) | exact cnt_ok' (by assumption) (by assumption)); (case qzp => exact ⟨SegP.use SS9 (by k_asm) (by fail "mine sub"), ssl⟩); (case qzd => ktr_room); (case qzu => ktr_units); ((((intro cv ch ctk cS F9 N9 cl cL cP; obtain ⟨fs, cf, cK, cN⟩ := PF.come (by k_asm) (by k_asm) cP; clear cP cS cl cL; (replace AA := up3 AA cN (by fail "mine mem2") (by fail "mine mem2") (by fail "mine mem2")); (try (replace aD := AllNe.ins3 aD (cN (du, _) (by fail "mine mem2")))); (try (replace aT := AllNe.ins4 aT (cN (td, _) (by fail "mine mem2")))); (first | (replace N9 := ins8 cK N9) | (replace N9 := ins7 cK N9) | (replace N9 := ins6 cK N9) | (replace N9 := ins5 cK N9) | (replace N9 := ins4 cK N9) | (replace N9 := ins3 cK N9)); clear cK cN); (try k_sweep); (try dsimp only); (try k_fold)))))))) | ((k_here; (with_reducible show wpAny _ _ (call (Value.ref 821) _) _ _ _); k_dflt (((fail "fq"; refine' CtP.use (back_seg SS9 _ _ _ _ _ _ _) ?qzB ?qzF ?qzX ?qzN ?qzT ?qzK1 ?qzK ?qzp ?qzd ?qzu ?_); ((((case qzB => k_asm); (case qzF => k_asm); (case qzX => k_asm); (case qzN => k_asm); (case qzT => k_asm); (case qzK1 => first | exact rfl | assumption); (case qzK => first | exact rfl | assumption)))); (case qzp => exact ⟨SegP.use SS9 (by k_asm) (by fail "mine sub"), ssl⟩); (case qzd => ktr_room); (case qzu => ktr_units); ((((intro cv ch ctk cS F9 N9 cl cL cP; obtain ⟨fs, cf, cK, cN⟩ := PF.come (by k_asm) (by k_asm) cP; clear cP cS cl cL; (replace AA := up3 AA cN (by fail "mine mem2") (by fail "mine mem2") (by fail "mine mem2")); (try (replace aD := AllNe.ins3 aD (cN (du, _) (by fail "mine mem2")))); (try (replace aT := AllNe.ins4 aT (cN (td, _) (by fail "mine mem2")))); (first | (replace N9 := ins8 cK N9) | (replace N9 := ins7 cK N9) | (replace N9 := ins6 cK N9) | (replace N9 := ins5 cK N9) | (replace N9 := ins4 cK N9) | (replace N9 := ins3 cK N9)); clear cK cN); (try k_sweep); (try dsimp only); (try k_fold)))))))) | ((k_here; (with_reducible show wpAny _ _ (call (Value.ref 816) _) _ _ _); k_dflt (((fail "fq"; refine' CtP.use (ahead_seg SS9 _ _ _ _ _ _ _) ?qzB ?qzF ?qzX ?qzN ?qzT ?qzK1 ?qzK ?qzp ?qzd ?qzu ?_); ((((case qzB => k_asm); (case qzF => k_asm); (case qzX => k_asm); (case qzN => k_asm); (case qzT => k_asm); (case qzK1 => first | exact rfl | assumption); (case qzK => first | exact rfl | assumption)))); (case qzp => exact ⟨SegP.use SS9 (by k_asm) (by fail "mine sub"), ssl⟩); (case qzd => ktr_room); (case qzu => ktr_units); ((((intro cv ch ctk cS F9 N9 cl cL cP; obtain ⟨fs, cf, cK, cN⟩ := PF.come (by k_asm) (by k_asm) cP; clear cP cS cl cL; (replace AA := up3 AA cN (by fail "mine mem2") (by fail "mine mem2") (by fail "mine mem2")); (try (replace aD := AllNe.ins3 aD (cN (du, _) (by fail "mine mem2")))); (try (replace aT := AllNe.ins4 aT (cN (td, _) (by fail "mine mem2")))); (first | (replace N9 := ins8 cK N9) | (replace N9 := ins7 cK N9) | (replace N9 := ins6 cK N9) | (replace N9 := ins5 cK N9) | (replace N9 := ins4 cK N9) | (replace N9 := ins3 cK N9)); clear cK cN); (try k_sweep); (try dsimp only); (try k_fold)))))))) | ((k_here; (with_reducible show wpAny _ _ (call (Value.ref 806) _) _ _ _); k_dflt (((fail "fq"; refine' CtM.useR (draw_seg SD _ dk _ _ _ _ _ (KB.ok kbT ?qzs2) ?qzs3) ?qzB ?qzF ?qzX ?qzN ?qzT ?qzK1 ?qzK (Rems.cons (Rem.head (AllNe.all A0)) Rems.nil) ?qzp ?qzd ?qzu ?_); (case qzB => (k_asm)); (case qzF => (k_asm)); (case qzX => (k_asm)); (case qzN => (first | k_asm | exact drop1 (by k_asm))); (case qzT => (k_asm)); (case qzK1 => (first | exact rfl | assumption)); (case qzK => (first | exact rfl | assumption)); (case qzs2 => decide); (case qzs3 => first | exact ⟨by decide, by decide⟩ | exact many_ok' b8 (by decide) (by decide)); (case qzp => (intro g2 G2 S2; have z9 := SegP.onG SD (by k_asm) (by first | fail "mine sub" | fail) A1 G2; exact ⟨z9, len40⟩)); (case qzd => (ktr_room)); (case qzu => (ktr_units)); (intro cv ch ctk cG F9 N9 cO cP; obtain ⟨r9, t9, tk9, n9, cV, r91, r92, cD⟩ := cP; replace N9 := news_put N9 cD (cO _ (List.Mem.head _)); replace kbT := KB.succ kbT; clear cG cO cD; subst cV; (try k_sweep); (try dsimp only); (try k_fold)))))) | ((k_here; (with_reducible show wpAny _ _ (call (Value.ref 811) _) _ _ _); k_dflt (((fail "fq"; refine' CtP.use (stands_c _ _ _ _ _ _ (str_len b8) (str_len b7)) ?qzB ?qzF ?qzX ?qzN ?qzT ?qzK1 ?qzK trivial ?qzd ?qzu ?_); (case qzB => k_asm); (case qzF => k_asm); (case qzX => k_asm); (case qzN => k_asm); (case qzT => k_asm); (case qzK1 => first | exact rfl | assumption); (case qzK => first | exact rfl | assumption); (case qzd => ktr_room); (case qzu => ktr_units); (intro cv ch ctk cS F9 N9 cl cL cP; obtain ⟨lS, wsS, nS, cV, cQ, hiS, cR⟩ := cP; obtain ⟨NS, dS⟩ := fresh_onto (by k_asm) (by k_asm) N9 cQ cR; clear cl cL cS cQ cR N9; subst cV; (try k_sweep); (try dsimp only); (try k_fold)))))) | ((k_here; (with_reducible show wpAny _ _ (call (Value.ref 806) _) _ _ _); k_dflt (((fail "fq"; refine' CtM.useR (draw_c _ _ _ _ _ _ _ _ _ (KB.ok ?qzs1 ?qzs2) ⟨?qzs3, ?qzs4⟩) ?qzB ?qzF ?qzX ?qzN ?qzT ?qzK1 ?qzK ?qzR ?qzp ?qzd ?qzu ?_); (case qzB => (k_asm)); (case qzF => (k_asm)); (case qzX => (k_asm)); (case qzN => (k_asm)); (case qzT => (k_asm)); (case qzK1 => (first | exact rfl | assumption)); (case qzK => (first | exact rfl | assumption)); (case qzR => (fail "mine rems")); (case qzs1 => (fail "mine kb")); (case qzs2 => decide); (case qzs3 => first | decide | omega); (case qzs4 => first | decide | omega); (case qzp => (intro g2 G2 S2; exact ⟨⟨_, ⟨_, G2 _ _ (News.get (by k_asm) (by k_mem)) (by simp; k_ne), rfl, _, rfl⟩, by assumption⟩, len40⟩)); (case qzd => (ktr_room)); (case qzu => (ktr_units)); (intro cv ch ctk cG F9 N9 cO cP; obtain ⟨r9, t9, tk9, n9, cV, r91, r92, cD⟩ := cP; replace N9 := news_put N9 cD (cO _ (List.Mem.head _)); clear cG cO cD; subst cV; (try k_sweep); (try dsimp only); (try k_fold)); )))) | fail) | ((with_reducible show wpAny _ _ (pyIter (Value.ref _)) _ _ _); k_dflt ((((rename News _ _ _ _ => N6); refine' range_T (σ := LS) 4 [Str.ofString "place", Str.ofString "count", Str.ofString "high", Str.ofString "low", Str.ofString "due", Str.ofString "told_own", Str.ofString "found"] (fun st => (dk, W.listOf #[.ref dc, .int st.k st.tk] st.n) :: (PT, tabObj st.ps) :: st.tl) (fun i st => KB st.k (18 + 4 * (i : Int)) ∧ LoopI dk PT _ _ _ dc _ _ _ _ _ _ (Str.ofString "law.<locals>.<lambda>") st.ps st.tl) ⟨_, _, _, _, _⟩ rfl (by assumption) (by decide) rfl (by assumption) N6 ⟨kbL, LI⟩ (fun i9 t9 u9 st9 h9 tk9 I9 oI9 hi9 hP9 off9 F9 N9 => ?_) (fun u9 st9 h9 tk9 hP9 F9 N9 => ?_); rotate_left; (subst hPT); rotate_right)))) | walk1 | (k_end; wrow_close) | (dsimp only; walk1) | (leave1; try dsimp only) | (dsimp only) | fail "no step"))
    (rename News _ _ _ _ => N7)
    obtain ⟨td, rfl, N8, aT, nT⟩ := told_in N7 (by assumption)
    clear N7
    have k1 := m1
    have k2 := m2
    have k3 := m3
    have k4 := m4
    have k5 := m5
    have k6 := m6
    (repeat' ((fail_if_success (with_reducible show wpAny _ _ (exec (Stmt.If _ _ _ ⟨713, _, _, _⟩) _) _ _ _)); first | fail "unf" | ((with_reducible show GoodW _ _ _ _ _ _ _); first | ((k_dflt (refine' goodW_bool ?qzg1 ?qzg2 ?qzg3 ?qzg4 ?qzg5; (case qzg1 => k_asm); (case qzg2 => k_asm); (case qzg3 => (intro _; kernel_rfl!)); (case qzg4 => kernel_rfl!); (case qzg5 => first | rfl | kernel_rfl!); ))) | fail) | ((with_reducible show wpAny _ _ (eval (Expr.Name _ _) _) _ _ _); first | ((k_here; first | ((with_reducible show wpAny _ _ (eval (Expr.Name _ _) (compEnvC _ _ _ _)) _ _ _); k_dflt (first | (refine' kcf_cell ?qzN ?qzc ?qzm ?qzd ?_ ?qza ?qzb; (case qza => rfl); (case qzb => rfl); (case qzN => k_asm); (case qzc => rfl); (case qzm => fail "mine mem2"); (case qzd => k_asm); k_whole) | (refine' LCgL.ld_own ?qza ?qzb ?qzc ?qzd ?_; (case qza => k_asm); (case qzb => k_mem); (case qzc => assumption); (case qzd => assumption); k_whole) | (refine' LCgL.ld_global ?qza ?qzb ?qzc ?qzd ?_; (case qza => k_asm); (case qzb => k_asm); (case qzc => k_asm); (case qzd => k_is); k_whole) | (refine' LCgL.ld_built ?qza ?qzb ?qzc ?qzd ?qze ?qzf ?_; (case qza => k_asm); (case qzb => k_asm); (case qzc => k_asm); (case qzd => k_is); (case qze => boot_by_name); (case qzf => decide); k_whole))) | k_dflt (first | (refine' name_L ?qzF ?qzv ?qzo ?_; (case qzo => decide +kernel); (case qzF => k_asm); (case qzv => rfl); k_whole) | (refine' name_G ?qzF ?qzX ?qzT ?qze ?qzo ?_; (case qzo => decide +kernel); (case qzF => k_asm); (case qzX => k_asm); (case qzT => k_asm); (case qze => k_is); k_whole) | (refine' name_C ?qzN ?qzc ?qzm ?qzd ?qzo ?_; (case qzo => decide +kernel); (case qzN => k_asm); (case qzc => rfl); (case qzm => fail "mine mem2"); (case qzd => k_asm); k_whole) | (refine' name_I ?qzF ?qzX ?qzT ?qze ?qzv ?qzn ?qzo ?_; (case qzo => decide +kernel); (case qzF => k_asm); (case qzX => k_asm); (case qzT => k_asm); (case qze => k_is); (case qzv => boot_fast); (case qzn => decide); k_whole)))) | ((k_here; (with_reducible show wpAny _ _ (eval (Expr.Name _ _) (compEnvC _ _ _ _)) _ _ _); k_dflt (refine' kcf_cell ?qN ?qc ?qm ?qd ?_ ?qa ?qb; (case qa => rfl); (case qb => rfl); (case qN => k_asm); (case qc => rfl); (case qm => fail "mine mem2"); (case qd => k_asm); k_whole))) | ((k_here; k_dflt (refine' nameX_G ?qF ?qc ?qg ?qd ?_ ?qa ?qb; (case qa => rfl); (case qb => rfl); (case qF => k_asm); (case qc => rfl); (case qg => first | exact g6 | exact g5 | exact g4 | exact g3 | exact g2 | exact g1); (case qd => k_asm); k_whole))) | ((k_here; k_dflt (refine' nameX_C ?qN ?qc ?qm ?qd ?_ ?qa ?qb; (case qa => rfl); (case qb => rfl); (case qN => k_asm); (case qc => rfl); (case qm => fail "mine mem2"); (case qd => k_asm); k_whole))) | fail) | ((with_reducible show wpAny _ _ (callWith _ (Value.ref _) _ _ _) _ _ _); first | ((k_here; k_dflt (first | (refine' callWith_K ?qk1 ?qk2 ?_; (case qk1 => k_asm); (case qk2 => k_is); k_whole) | (refine' callWith_K0F ?qk0 ?qk1 ?qk2 ?_; (case qk0 => k_asm); (case qk1 => k_asm); (case qk2 => k_is); k_whole) | (refine' callWith_KW ?qk1 ?qk2 ?qk3 ?_; (case qk1 => k_asm); (case qk2 => k_is); (case qk3 => exact rfl); k_whole) | (refine' callWith_KW0 ?qk1 ?qk2 ?qk3 ?_; (case qk1 => k_asm); (case qk2 => k_is); (case qk3 => exact rfl); k_whole)))) | ((k_here; k_dflt (refine' callWith_K ?qk1 ?qk2 ?_; (case qk1 => k_asm); (case qk2 => k_is); k_whole))) | fail) | ((with_reducible show EndX _ _ _ _ _ _ _); first | ((k_dflt ((refine' jt_out ?qjF ?qjN AA n1 n2 ?qjm ⟨KB.four hkb, LoopI.up hLI ?qjs AA.1 AA.2.2 (TabSt.up TS ?qjt)⟩; (case qjF => k_asm); (case qjN => first | k_asm | exact drop1 (by k_asm) | exact drop1 (drop1 (by k_asm)) | exact drop1 (drop1 (drop1 (by k_asm))) | exact drop1 (drop1 (drop1 (drop1 (by k_asm)))) | exact drop1 (drop1 (drop1 (drop1 (drop1 (by k_asm)))))); (case qjm => ((intro z h1 h2; (try dsimp +zetaDelta only); (simp only [List.contains_cons, List.contains_nil, Bool.or_false, Bool.or_eq_false_iff, beq_eq_false_iff_ne, ne_eq] at h1 h2); (simp [h1, h2]; done)))); (case qjs => fail "mine sub"); (case qjt => fail "mine sub"))))) | fail) | ((with_reducible show wpAny _ _ (compareOp CmpOp.NotEq _ _) _ _ _); first | ((k_here; k_dflt ((refine ne_find (FindIn.at (reS (by assumption) (by assumption)) (by k_asm) (by fail "mine sub")) (FindIn.at (by assumption) (by k_asm) (by fail "mine sub")) (by ktr_units) ?_)))) | fail) | ((with_reducible show wpAny _ _ (compareOp CmpOp.NotEq (Value.ref _) (Value.ref _)) _ _ _); first | ((k_here; (with_reducible show wpAny _ _ (compareOp CmpOp.NotEq (Value.ref _) (Value.ref _)) _ _ _); k_dflt ((refine ne_finds (by k_asm) (by fail "mine mem2") (by fail "mine mem2") rfl rfl rfl rfl VT hf9 (by fail "mine sub") (by fail "mine sub") (by ktr_units) ?_)))) | fail) | ((with_reducible show LCg.CompSrc _ _ _ _ _ _ _ _ _ _ _ _ _ _); first | ((k_here; k_dflt (((rename News _ _ _ _ => lN'); (refine LCg.CompSrc.ledger (by rfl) (by k_asm) lN' (by fail "mine mem2") (Nat.le_of_ble_eq_true rfl) ?_; intro g'; refine comp_moved' VT VD (fun i9 o9 v9 ys9 fs9 I' oI' C' oC' D' m' h' tk' E' ho9 hv9 hI9 hC' hx' F' N' off9 ne' => ?_) (fun ys9 fs9 hf9 => ?_)))); (all_goals (try k_fold)))) | fail) | ((with_reducible show wpAny _ _ (eval (Expr.Lambda _ _ _ _) _) _ _ _); first | ((k_here; k_dflt (((refine' kla_eval ?qd0 ?_; (case qd0 => exact rfl)); (refine' lam_come ?qF ?qN ?qT ?qC ?qcd (rem5 nT nD hdk9 n1 AA.2.2) TS ?qhq ?qcl ?_; (case qF => k_asm); (case qN => k_asm); (case qT => k_asm); (case qcd => exact rfl); (case qC => (rw [hPT]; kn_code)); (case qhq => first | exact rfl | decide +kernel); (case qcl => exact rfl)); (intro f9 c9 ctv9 pt9 ls h' tk' F9 N9 cK cP cN mf SR TS9; replace AA := up3L AA cN cP (by fail "mine mem2") (by fail "mine mem2"); replace aT := aT_up (o' := tabObj pt9) aT cN (by fail "mine mem2"); replace N9 := ins5 cK (rot5 N9); clear cK cP cN; replace TS := TS9); (try k_sweep); (try dsimp only); (try k_fold))))) | fail) | ((with_reducible show wpAny _ _ (call (Value.builtin "list.append") _) _ _ _); first | ((k_here; (with_reducible show wpAny _ _ (call (Value.builtin _) [Value.ref _, _]) _ _ _); k_dflt (((refine' append_K ?qk1 ?qk2 ?qk3 ?_ ?qz; (case qk1 => k_asm); (case qk2 => k_asm); (case qk3 => first | exact Upd.head (AllNe.all aT) | exact Upd.head (AllNe.all aD)); (case qz => exact Nat.le_of_ble_eq_true rfl); k_whole); intro h' F' N'; (try k_sweep))))) | fail) | ((with_reducible show wpAny _ _ (call (Value.builtin "len") _) _ _ _); first | ((k_here; (with_reducible show wpAny _ _ (call (Value.builtin "len") [Value.str _ _]) _ _ _); k_dflt (first | refine len_text b8 (by decide) ?_ | refine len_text b7 (by decide) ?_))) | fail) | ((with_reducible show wpAny _ _ (call (Value.type _) [Value.ref _]) _ _ _); first | ((k_here; (with_reducible show wpAny _ _ (call (Value.type _) [Value.ref _]) _ _ _); k_dflt (refine' list_ofLst ?qF ?qN ?qb ?qi ?ql ?qz ?_; (case qF => k_asm); (case qN => k_asm); (case qb => k_mem); (case qi => assumption); (case ql => assumption); (case qz => decide)); intro D' c' h' F' N' l1; (try k_lt l1); (try k_sweep))) | fail) | ((with_reducible show LCg.CompEnd _ _ _ _ _ _ _ _ _ _ _ _ _ _); first | ((k_here; k_dflt (refine keep_end (by k_asm) N' off' trivial (OrdR.step hi' hc' (by rfl))))) | fail) | ((with_reducible show TxtSrc _ _ _ _ _ _ _ _ _ _ _ _ _ _); first | ((k_here; k_dflt (((rename News _ _ _ _ => lN'); (refine ⟨_, _, _, rfl, rfl, by k_asm, lN', by exact txt_size (by assumption) (by decide), fun g' => comp_ords (fun i' c' ys' u' I' oI' C' oC' D' m' h' tk' E' hc' hm' hi' hC' hx' F' N' off' ne' => ?_) (fun ys' hy' => ?_)⟩))))) | fail) | ((with_reducible show wpAny _ _ (call (Value.builtin "str.join") _) _ _ _); first | ((k_here; first | (k_dflt (refine' join_drawn ?qk1 hR7 ?qk2 ?_; (case qk1 => exact News.isList (by k_asm) (by k_mem)); (case qk2 => exact len_r (by assumption) (by assumption) (by decide))); intro _ _) | (k_dflt (refine' join_drawn ?qk1 hR8 ?qk2 ?_; (case qk1 => exact News.isList (by k_asm) (by k_mem)); (case qk2 => exact len_r (by assumption) (by assumption) (by decide))); intro _ _) | fail)) | fail) | ((with_reducible show wpAny _ _ (call (Value.ref _) _) _ _ _); first | ((k_here; (first | (with_reducible show wpAny _ _ (call (Value.ref 795) _) _ _ _) | (with_reducible show wpAny _ _ (call (Value.ref 626) _) _ _ _)); k_dflt (refine' call_cls ?qk1 ?qk2 ?qk3 ?qk4 ?qk5 ?qk6 ?_; (case qk1 => k_asm); (case qk2 => k_asm); (case qk3 => k_asm); (case qk4 => k_is); (case qk5 => k_is); (case qk6 => k_is); k_whole; intro x' d' h' F' N' l1 l2; (try k_lt l1); (try k_lt2 l2); (try k_sweep); k_enter; ))) | ((k_here; (with_reducible show wpAny _ _ (call (Value.ref 672) _) _ _ _); k_dflt (((fail "fq"; refine' CtP.use (match_seg hR7 hiQ hy' b7 b8 ?qzs1 ?qzs2 _ _ _ _ _) ?qzB ?qzF ?qzX ?qzN ?qzT ?qzK1 ?qzK ?qzp ?qzd ?qzu ?_); ((((case qzB => k_asm); (case qzF => k_asm); (case qzX => k_asm); (case qzN => k_asm); (case qzT => k_asm); (case qzK1 => first | exact rfl | assumption); (case qzK => first | exact rfl | assumption)))); (case qzs1 => assumption); (case qzs2 => assumption); (case qzp => exact ⟨ints_at (by k_asm) (by fail "mine mem2") hiQ, ints_at (by k_asm) (by fail "mine mem2") hy'⟩); (case qzd => ktr_room); (case qzu => ktr_units); ((((intro cv ch ctk cS F9 N9 cl cL cP; obtain ⟨fs, cf, cK, cN⟩ := PF.come (by k_asm) (by k_asm) cP; clear cP cS cl cL; (replace AA := up3 AA cN (by fail "mine mem2") (by fail "mine mem2") (by fail "mine mem2")); (try (replace aD := AllNe.ins3 aD (cN (du, _) (by fail "mine mem2")))); (try (replace aT := AllNe.ins4 aT (cN (td, _) (by fail "mine mem2")))); (first | (replace N9 := ins8 cK N9) | (replace N9 := ins7 cK N9) | (replace N9 := ins6 cK N9) | (replace N9 := ins5 cK N9) | (replace N9 := ins4 cK N9) | (replace N9 := ins3 cK N9)); clear cK cN); (try k_sweep); (try dsimp only); (try k_fold)))))))) | ((k_here; (with_reducible show wpAny _ _ (call (Value.ref 679) _) _ _ _); k_dflt (((fail "fq"; refine' CtP.use (quote_seg SI hR7 b7 _) ?qzB ?qzF ?qzX ?qzN ?qzT ?qzK1 ?qzK ?qzp ?qzd ?qzu ?_); ((((case qzB => k_asm); (case qzF => k_asm); (case qzX => k_asm); (case qzN => k_asm); (case qzT => k_asm); (case qzK1 => first | exact rfl | assumption); (case qzK => first | exact rfl | assumption)))); (case qzp => exact SegP.use SI (by k_asm) (by fail "mine sub")); (case qzd => ktr_room); (case qzu => ktr_units); (intro cv ch ctk cS F9 N9 cl cL cP; obtain ⟨lQ, wsQ, nQ, cV, cQ, hiQ, cR⟩ := cP; obtain ⟨NS, dQ⟩ := fresh_onto (by k_asm) (by k_asm) N9 cQ cR; clear cl cL cS cQ cR N9; subst cV; (try k_sweep); (try dsimp only); (try k_fold)))))) | ((k_here; (with_reducible show wpAny _ _ (call (Value.ref 833) _) _ _ _); k_dflt (((fail "fq"; refine' CtP.use (law_moved_c _ _ o9 _ _) ?qzB ?qzF ?qzX ?qzN ?qzT ?qzK1 ?qzK ?qzp ?qzd ?qzu ?_); ((((case qzB => k_asm); (case qzF => k_asm); (case qzX => k_asm); (case qzN => k_asm); (case qzT => k_asm); (case qzK1 => first | exact rfl | assumption); (case qzK => first | exact rfl | assumption)))); (case qzp => exact FindIn.at hv9 (by k_asm) (by fail "mine sub")); (case qzd => ktr_room); (case qzu => ktr_units); (intro cv ch ctk cS F9 N9 cl cL cP; exact moved_end (by k_asm) F9 (by k_asm) N9 off9 cP ho9 hI9 (fun fs => src_at (by fail "mine mem2") fs)))))) | ((k_here; (with_reducible show wpAny _ _ (call (Value.ref 665) _) _ _ _); k_dflt ((first | ((fail "fq"; refine' CtP.use (againF_seg SV SI SS9 mf _ ?qhC _ _ _ _ ?qhpl ?qhc) ?qzB ?qzF ?qzX ?qzN ?qzT ?qzK1 ?qzK ?qzp ?qzd ?qzu ?_); (case qhc => exact cnt_ok (by assumption) (by assumption)); (case qhpl => exact pl_okN (by assumption) (by assumption)); (((((((case qzB => k_asm); (case qzF => k_asm); (case qzX => k_asm); (case qzN => k_asm); (case qzT => k_asm); (case qzK1 => first | exact rfl | assumption); (case qzK => first | exact rfl | assumption)))); (case qzp => exact Stands.of (by k_asm) (by fail "mine sub") (by fail "mine sub")); (case qzd => ktr_room); (case qzu => ktr_units); (case qhC => ((((simp only [ofN_length]); intro p91 t91 h91 h92; (refine' CtP.mkL (fun _ hp => hp _ (List.mem_append_left _ mf)) SR ?qk9 ?qkB ?qkz ?qc2 ?qc3 ?qc4 ?qc5 ?_; (case qk9 => rfl); (case qc5 => decide +kernel); (case qkB => exact locs rfl); (case qkz => dsimp only [List.map, List.zip, List.zipWith, List.reverse, List.reverseAux]; try exact rfl); (case qc2 => exact rfl); (case qc3 => exact rfl); (case qc4 => exact rfl)); intro p loose mean mg mb dp un gd env outer base sh sg sd so Q E hdp hu hp hret L₁ h₁ tk₁ mm F₁ N₁ B₁ X₁ T₁ A₁ ek gk; have bd : Bnd mm := Bnd.mk; have g6 := hp _ (List.mem_append_right _ k6); have g5 := hp _ (List.mem_append_right _ k5); have g4 := hp _ (List.mem_append_right _ k4); have g3 := hp _ (List.mem_append_right _ k3); have g2 := hp _ (List.mem_append_right _ k2); have g1 := hp _ (List.mem_append_right _ k1))); repeat' ((fail_if_success (with_reducible show Q _ _)); first | fail "unf" | ((with_reducible show GoodW _ _ _ _ _ _ _); first | ((k_dflt (refine' goodW_bool ?qzg1 ?qzg2 ?qzg3 ?qzg4 ?qzg5; (case qzg1 => k_asm); (case qzg2 => k_asm); (case qzg3 => (intro _; kernel_rfl!)); (case qzg4 => kernel_rfl!); (case qzg5 => first | rfl | kernel_rfl!); ))) | fail) | ((with_reducible show wpAny _ _ (eval (Expr.Name _ _) _) _ _ _); first | ((k_here; first | ((with_reducible show wpAny _ _ (eval (Expr.Name _ _) (compEnvC _ _ _ _)) _ _ _); k_dflt (first | (refine' kcf_cell ?qzN ?qzc ?qzm ?qzd ?_ ?qza ?qzb; (case qza => rfl); (case qzb => rfl); (case qzN => k_asm); (case qzc => rfl); (case qzm => fail "mine mem2"); (case qzd => k_asm); k_whole) | (refine' LCgL.ld_own ?qza ?qzb ?qzc ?qzd ?_; (case qza => k_asm); (case qzb => k_mem); (case qzc => assumption); (case qzd => assumption); k_whole) | (refine' LCgL.ld_global ?qza ?qzb ?qzc ?qzd ?_; (case qza => k_asm); (case qzb => k_asm); (case qzc => k_asm); (case qzd => k_is); k_whole) | (refine' LCgL.ld_built ?qza ?qzb ?qzc ?qzd ?qze ?qzf ?_; (case qza => k_asm); (case qzb => k_asm); (case qzc => k_asm); (case qzd => k_is); (case qze => boot_by_name); (case qzf => decide); k_whole))) | k_dflt (first | (refine' name_L ?qzF ?qzv ?qzo ?_; (case qzo => decide +kernel); (case qzF => k_asm); (case qzv => rfl); k_whole) | (refine' name_G ?qzF ?qzX ?qzT ?qze ?qzo ?_; (case qzo => decide +kernel); (case qzF => k_asm); (case qzX => k_asm); (case qzT => k_asm); (case qze => k_is); k_whole) | (refine' name_C ?qzN ?qzc ?qzm ?qzd ?qzo ?_; (case qzo => decide +kernel); (case qzN => k_asm); (case qzc => rfl); (case qzm => fail "mine mem2"); (case qzd => k_asm); k_whole) | (refine' name_I ?qzF ?qzX ?qzT ?qze ?qzv ?qzn ?qzo ?_; (case qzo => decide +kernel); (case qzF => k_asm); (case qzX => k_asm); (case qzT => k_asm); (case qze => k_is); (case qzv => boot_fast); (case qzn => decide); k_whole)))) | ((k_here; (with_reducible show wpAny _ _ (eval (Expr.Name _ _) (compEnvC _ _ _ _)) _ _ _); k_dflt (refine' kcf_cell ?qN ?qc ?qm ?qd ?_ ?qa ?qb; (case qa => rfl); (case qb => rfl); (case qN => k_asm); (case qc => rfl); (case qm => fail "mine mem2"); (case qd => k_asm); k_whole))) | ((k_here; k_dflt (refine' nameX_G ?qF ?qc ?qg ?qd ?_ ?qa ?qb; (case qa => rfl); (case qb => rfl); (case qF => k_asm); (case qc => rfl); (case qg => first | exact g6 | exact g5 | exact g4 | exact g3 | exact g2 | exact g1); (case qd => k_asm); k_whole))) | ((k_here; k_dflt (refine' nameX_C ?qN ?qc ?qm ?qd ?_ ?qa ?qb; (case qa => rfl); (case qb => rfl); (case qN => k_asm); (case qc => rfl); (case qm => fail "mine mem2"); (case qd => k_asm); k_whole))) | fail) | ((with_reducible show wpAny _ _ (callWith _ (Value.ref _) _ _ _) _ _ _); first | ((k_here; k_dflt (first | (refine' callWith_K ?qk1 ?qk2 ?_; (case qk1 => k_asm); (case qk2 => k_is); k_whole) | (refine' callWith_K0F ?qk0 ?qk1 ?qk2 ?_; (case qk0 => k_asm); (case qk1 => k_asm); (case qk2 => k_is); k_whole) | (refine' callWith_KW ?qk1 ?qk2 ?qk3 ?_; (case qk1 => k_asm); (case qk2 => k_is); (case qk3 => exact rfl); k_whole) | (refine' callWith_KW0 ?qk1 ?qk2 ?qk3 ?_; (case qk1 => k_asm); (case qk2 => k_is); (case qk3 => exact rfl); k_whole)))) | ((k_here; k_dflt (refine' callWith_K ?qk1 ?qk2 ?_; (case qk1 => k_asm); (case qk2 => k_is); k_whole))) | fail) | ((with_reducible show EndX _ _ _ _ _ _ _); first | ((k_dflt ((refine' jt_out ?qjF ?qjN AA n1 n2 ?qjm ⟨KB.four hkb, LoopI.up hLI ?qjs AA.1 AA.2.2 (TabSt.up TS ?qjt)⟩; (case qjF => k_asm); (case qjN => first | k_asm | exact drop1 (by k_asm) | exact drop1 (drop1 (by k_asm)) | exact drop1 (drop1 (drop1 (by k_asm))) | exact drop1 (drop1 (drop1 (drop1 (by k_asm)))) | exact drop1 (drop1 (drop1 (drop1 (drop1 (by k_asm)))))); (case qjm => ((intro z h1 h2; (try dsimp +zetaDelta only); (simp only [List.contains_cons, List.contains_nil, Bool.or_false, Bool.or_eq_false_iff, beq_eq_false_iff_ne, ne_eq] at h1 h2); (simp [h1, h2]; done)))); (case qjs => fail "mine sub"); (case qjt => fail "mine sub"))))) | fail) | ((with_reducible show wpAny _ _ (compareOp CmpOp.NotEq _ _) _ _ _); first | ((k_here; k_dflt ((refine ne_find (FindIn.at (reS (by assumption) (by assumption)) (by k_asm) (by fail "mine sub")) (FindIn.at (by assumption) (by k_asm) (by fail "mine sub")) (by ktr_units) ?_)))) | fail) | ((with_reducible show wpAny _ _ (compareOp CmpOp.NotEq (Value.ref _) (Value.ref _)) _ _ _); first | ((k_here; (with_reducible show wpAny _ _ (compareOp CmpOp.NotEq (Value.ref _) (Value.ref _)) _ _ _); k_dflt ((refine ne_finds (by k_asm) (by fail "mine mem2") (by fail "mine mem2") rfl rfl rfl rfl VT hf9 (by fail "mine sub") (by fail "mine sub") (by ktr_units) ?_)))) | fail) | ((with_reducible show LCg.CompSrc _ _ _ _ _ _ _ _ _ _ _ _ _ _); first | ((k_here; k_dflt (((rename News _ _ _ _ => lN'); (refine LCg.CompSrc.ledger (by rfl) (by k_asm) lN' (by fail "mine mem2") (Nat.le_of_ble_eq_true rfl) ?_; intro g'; refine comp_moved' VT VD (fun i9 o9 v9 ys9 fs9 I' oI' C' oC' D' m' h' tk' E' ho9 hv9 hI9 hC' hx' F' N' off9 ne' => ?_) (fun ys9 fs9 hf9 => ?_)))); (all_goals (try k_fold)))) | fail) | ((with_reducible show wpAny _ _ (eval (Expr.Lambda _ _ _ _) _) _ _ _); first | ((k_here; k_dflt (((refine' kla_eval ?qd0 ?_; (case qd0 => exact rfl)); (refine' lam_come ?qF ?qN ?qT ?qC ?qcd (rem5 nT nD hdk9 n1 AA.2.2) TS ?qhq ?qcl ?_; (case qF => k_asm); (case qN => k_asm); (case qT => k_asm); (case qcd => exact rfl); (case qC => (rw [hPT]; kn_code)); (case qhq => first | exact rfl | decide +kernel); (case qcl => exact rfl)); (intro f9 c9 ctv9 pt9 ls h' tk' F9 N9 cK cP cN mf SR TS9; replace AA := up3L AA cN cP (by fail "mine mem2") (by fail "mine mem2"); replace aT := aT_up (o' := tabObj pt9) aT cN (by fail "mine mem2"); replace N9 := ins5 cK (rot5 N9); clear cK cP cN; replace TS := TS9); (try k_sweep); (try dsimp only); (try k_fold))))) | fail) | ((with_reducible show wpAny _ _ (call (Value.builtin "list.append") _) _ _ _); first | ((k_here; (with_reducible show wpAny _ _ (call (Value.builtin _) [Value.ref _, _]) _ _ _); k_dflt (((refine' append_K ?qk1 ?qk2 ?qk3 ?_ ?qz; (case qk1 => k_asm); (case qk2 => k_asm); (case qk3 => first | exact Upd.head (AllNe.all aT) | exact Upd.head (AllNe.all aD)); (case qz => exact Nat.le_of_ble_eq_true rfl); k_whole); intro h' F' N'; (try k_sweep))))) | fail) | ((with_reducible show wpAny _ _ (call (Value.builtin "len") _) _ _ _); first | ((k_here; (with_reducible show wpAny _ _ (call (Value.builtin "len") [Value.str _ _]) _ _ _); k_dflt (first | refine len_text b8 (by decide) ?_ | refine len_text b7 (by decide) ?_))) | fail) | ((with_reducible show wpAny _ _ (call (Value.type _) [Value.ref _]) _ _ _); first | ((k_here; (with_reducible show wpAny _ _ (call (Value.type _) [Value.ref _]) _ _ _); k_dflt (refine' list_ofLst ?qF ?qN ?qb ?qi ?ql ?qz ?_; (case qF => k_asm); (case qN => k_asm); (case qb => k_mem); (case qi => assumption); (case ql => assumption); (case qz => decide)); intro D' c' h' F' N' l1; (try k_lt l1); (try k_sweep))) | fail) | ((with_reducible show LCg.CompEnd _ _ _ _ _ _ _ _ _ _ _ _ _ _); first | ((k_here; k_dflt (refine keep_end (by k_asm) N' off' trivial (OrdR.step hi' hc' (by rfl))))) | fail) | ((with_reducible show TxtSrc _ _ _ _ _ _ _ _ _ _ _ _ _ _); first | ((k_here; k_dflt (((rename News _ _ _ _ => lN'); (refine ⟨_, _, _, rfl, rfl, by k_asm, lN', by exact txt_size (by assumption) (by decide), fun g' => comp_ords (fun i' c' ys' u' I' oI' C' oC' D' m' h' tk' E' hc' hm' hi' hC' hx' F' N' off' ne' => ?_) (fun ys' hy' => ?_)⟩))))) | fail) | ((with_reducible show wpAny _ _ (call (Value.builtin "str.join") _) _ _ _); first | ((k_here; first | (k_dflt (refine' join_drawn ?qk1 hR7 ?qk2 ?_; (case qk1 => exact News.isList (by k_asm) (by k_mem)); (case qk2 => exact len_r (by assumption) (by assumption) (by decide))); intro _ _) | (k_dflt (refine' join_drawn ?qk1 hR8 ?qk2 ?_; (case qk1 => exact News.isList (by k_asm) (by k_mem)); (case qk2 => exact len_r (by assumption) (by assumption) (by decide))); intro _ _) | fail)) | fail) | ((with_reducible show wpAny _ _ (call (Value.ref _) _) _ _ _); first | ((k_here; (first | (with_reducible show wpAny _ _ (call (Value.ref 795) _) _ _ _) | (with_reducible show wpAny _ _ (call (Value.ref 626) _) _ _ _)); k_dflt (refine' call_cls ?qk1 ?qk2 ?qk3 ?qk4 ?qk5 ?qk6 ?_; (case qk1 => k_asm); (case qk2 => k_asm); (case qk3 => k_asm); (case qk4 => k_is); (case qk5 => k_is); (case qk6 => k_is); k_whole; intro x' d' h' F' N' l1 l2; (try k_lt l1); (try k_lt2 l2); (try k_sweep); k_enter; ))) | ((k_here; (with_reducible show wpAny _ _ (call (Value.ref 672) _) _ _ _); k_dflt (((fail "fq"; refine' CtP.use (match_seg hR7 hiQ hy' b7 b8 ?qzs1 ?qzs2 _ _ _ _ _) ?qzB ?qzF ?qzX ?qzN ?qzT ?qzK1 ?qzK ?qzp ?qzd ?qzu ?_); ((((case qzB => k_asm); (case qzF => k_asm); (case qzX => k_asm); (case qzN => k_asm); (case qzT => k_asm); (case qzK1 => first | exact rfl | assumption); (case qzK => first | exact rfl | assumption)))); (case qzs1 => assumption); (case qzs2 => assumption); (case qzp => exact ⟨ints_at (by k_asm) (by fail "mine mem2") hiQ, ints_at (by k_asm) (by fail "mine mem2") hy'⟩); (case qzd => ktr_room); (case qzu => ktr_units); ((((intro cv ch ctk cS F9 N9 cl cL cP; obtain ⟨fs, cf, cK, cN⟩ := PF.come (by k_asm) (by k_asm) cP; clear cP cS cl cL; (replace AA := up3 AA cN (by fail "mine mem2") (by fail "mine mem2") (by fail "mine mem2")); (try (replace aD := AllNe.ins3 aD (cN (du, _) (by fail "mine mem2")))); (try (replace aT := AllNe.ins4 aT (cN (td, _) (by fail "mine mem2")))); (first | (replace N9 := ins8 cK N9) | (replace N9 := ins7 cK N9) | (replace N9 := ins6 cK N9) | (replace N9 := ins5 cK N9) | (replace N9 := ins4 cK N9) | (replace N9 := ins3 cK N9)); clear cK cN); (try k_sweep); (try dsimp only); (try k_fold)))))))) | ((k_here; (with_reducible show wpAny _ _ (call (Value.ref 679) _) _ _ _); k_dflt (((fail "fq"; refine' CtP.use (quote_seg SI hR7 b7 _) ?qzB ?qzF ?qzX ?qzN ?qzT ?qzK1 ?qzK ?qzp ?qzd ?qzu ?_); ((((case qzB => k_asm); (case qzF => k_asm); (case qzX => k_asm); (case qzN => k_asm); (case qzT => k_asm); (case qzK1 => first | exact rfl | assumption); (case qzK => first | exact rfl | assumption)))); (case qzp => exact SegP.use SI (by k_asm) (by fail "mine sub")); (case qzd => ktr_room); (case qzu => ktr_units); (intro cv ch ctk cS F9 N9 cl cL cP; obtain ⟨lQ, wsQ, nQ, cV, cQ, hiQ, cR⟩ := cP; obtain ⟨NS, dQ⟩ := fresh_onto (by k_asm) (by k_asm) N9 cQ cR; clear cl cL cS cQ cR N9; subst cV; (try k_sweep); (try dsimp only); (try k_fold)))))) | ((k_here; (with_reducible show wpAny _ _ (call (Value.ref 833) _) _ _ _); k_dflt (((fail "fq"; refine' CtP.use (law_moved_c _ _ o9 _ _) ?qzB ?qzF ?qzX ?qzN ?qzT ?qzK1 ?qzK ?qzp ?qzd ?qzu ?_); ((((case qzB => k_asm); (case qzF => k_asm); (case qzX => k_asm); (case qzN => k_asm); (case qzT => k_asm); (case qzK1 => first | exact rfl | assumption); (case qzK => first | exact rfl | assumption)))); (case qzp => exact FindIn.at hv9 (by k_asm) (by fail "mine sub")); (case qzd => ktr_room); (case qzu => ktr_units); (intro cv ch ctk cS F9 N9 cl cL cP; exact moved_end (by k_asm) F9 (by k_asm) N9 off9 cP ho9 hI9 (fun fs => src_at (by fail "mine mem2") fs)))))) | ((k_here; (with_reducible show wpAny _ _ (call (Value.ref 651) _) _ _ _); k_dflt (((fail "fq"; refine' CtP.use (searchB_seg SV SI _ _ _ _ _ _) ?qzB ?qzF ?qzX ?qzN ?qzT ?qzK1 ?qzK ?qzp ?qzd ?qzu ?_); ((((case qzB => k_asm); (case qzF => k_asm); (case qzX => k_asm); (case qzN => k_asm); (case qzT => k_asm); (case qzK1 => first | exact rfl | assumption); (case qzK => first | exact rfl | assumption)))); (case qzp => exact pre_lam hp (Fr.keep (by k_asm)) SV SI psl (by exact strongP h91 h92 b8 (by assumption) (by assumption)) (by exact strongB (by assumption) (by assumption))); (case qzd => ktr_room); (case qzu => ktr_units); (intro cv ch ctk cS F9 N9 cl cL cP; exact hret _ _ _ (Fr.keep F9) (PF.back (Fr.keep (by k_asm)) cP)))))) | ((k_here; (with_reducible show wpAny _ _ (call (Value.ref 644) _) _ _ _); k_dflt (((fail "fq"; refine' CtP.use (searchF_seg SV SI _ _ _ _ _ _) ?qzB ?qzF ?qzX ?qzN ?qzT ?qzK1 ?qzK ?qzp ?qzd ?qzu ?_); ((((case qzB => k_asm); (case qzF => k_asm); (case qzX => k_asm); (case qzN => k_asm); (case qzT => k_asm); (case qzK1 => first | exact rfl | assumption); (case qzK => first | exact rfl | assumption)))); (case qzp => exact pre_lam hp (Fr.keep (by k_asm)) SV SI psl (by exact strongP h91 h92 b8 (by assumption) (by assumption)) (by exact strongN b8 (by assumption) (by assumption))); (case qzd => ktr_room); (case qzu => ktr_units); (intro cv ch ctk cS F9 N9 cl cL cP; exact hret _ _ _ (Fr.keep F9) (PF.back (Fr.keep (by k_asm)) cP)))))) | ((k_here; (with_reducible show wpAny _ _ (call (Value.ref 651) _) _ _ _); k_dflt (((fail "fq"; refine' CtP.use (searchB_seg SV SI _ _ _ _ _ _) ?qzB ?qzF ?qzX ?qzN ?qzT ?qzK1 ?qzK ?qzp ?qzd ?qzu ?_); ((((case qzB => k_asm); (case qzF => k_asm); (case qzX => k_asm); (case qzN => k_asm); (case qzT => k_asm); (case qzK1 => first | exact rfl | assumption); (case qzK => first | exact rfl | assumption)))); (case qzp => exact pre_search SV SI (by k_asm) (by fail "mine sub") psl (by exact rng_ok (by assumption) (by assumption) (by decide) b8 (by assumption) (by assumption)) (by exact rng_ok (by assumption) (by assumption) (by decide) b8 (by assumption) (by assumption))); (case qzd => ktr_room); (case qzu => ktr_units); ((((intro cv ch ctk cS F9 N9 cl cL cP; obtain ⟨fs, cf, cK, cN⟩ := PF.come (by k_asm) (by k_asm) cP; clear cP cS cl cL; (replace AA := up3 AA cN (by fail "mine mem2") (by fail "mine mem2") (by fail "mine mem2")); (try (replace aD := AllNe.ins3 aD (cN (du, _) (by fail "mine mem2")))); (try (replace aT := AllNe.ins4 aT (cN (td, _) (by fail "mine mem2")))); (first | (replace N9 := ins8 cK N9) | (replace N9 := ins7 cK N9) | (replace N9 := ins6 cK N9) | (replace N9 := ins5 cK N9) | (replace N9 := ins4 cK N9) | (replace N9 := ins3 cK N9)); clear cK cN); (try k_sweep); (try dsimp only); (try k_fold)))))))) | ((k_here; (with_reducible show wpAny _ _ (call (Value.ref 644) _) _ _ _); k_dflt (((fail "fq"; refine' CtP.use (searchF_seg SV SI _ _ _ _ _ _) ?qzB ?qzF ?qzX ?qzN ?qzT ?qzK1 ?qzK ?qzp ?qzd ?qzu ?_); ((((case qzB => k_asm); (case qzF => k_asm); (case qzX => k_asm); (case qzN => k_asm); (case qzT => k_asm); (case qzK1 => first | exact rfl | assumption); (case qzK => first | exact rfl | assumption)))); (case qzp => exact pre_search SV SI (by k_asm) (by fail "mine sub") psl (by exact rng_ok (by assumption) (by assumption) (by decide) b8 (by assumption) (by assumption)) (by exact rng_ok (by assumption) (by assumption) (by decide) b8 (by assumption) (by assumption))); (case qzd => ktr_room); (case qzu => ktr_units); ((((intro cv ch ctk cS F9 N9 cl cL cP; obtain ⟨fs, cf, cK, cN⟩ := PF.come (by k_asm) (by k_asm) cP; clear cP cS cl cL; (replace AA := up3 AA cN (by fail "mine mem2") (by fail "mine mem2") (by fail "mine mem2")); (try (replace aD := AllNe.ins3 aD (cN (du, _) (by fail "mine mem2")))); (try (replace aT := AllNe.ins4 aT (cN (td, _) (by fail "mine mem2")))); (first | (replace N9 := ins8 cK N9) | (replace N9 := ins7 cK N9) | (replace N9 := ins6 cK N9) | (replace N9 := ins5 cK N9) | (replace N9 := ins4 cK N9) | (replace N9 := ins3 cK N9)); clear cK cN); (try k_sweep); (try dsimp only); (try k_fold)))))))) | ((k_here; (with_reducible show wpAny _ _ (call (Value.ref 828) _) _ _ _); k_dflt (((fail "fq"; refine' CtP.use (often_seg SS9 _ _ _ _ _ _ _ _ _ ?qzs1) ?qzB ?qzF ?qzX ?qzN ?qzT ?qzK1 ?qzK ?qzp ?qzd ?qzu ?_); ((((case qzB => k_asm); (case qzF => k_asm); (case qzX => k_asm); (case qzN => k_asm); (case qzT => k_asm); (case qzK1 => first | exact rfl | assumption); (case qzK => first | exact rfl | assumption)))); (case qzs1 => first | exact cnt_ok (by assumption) (by assumption) | exact cnt_ok' (by assumption) (by assumption)); (case qzp => exact ⟨SegP.use SS9 (by k_asm) (by fail "mine sub"), ssl⟩); (case qzd => ktr_room); (case qzu => ktr_units); ((((intro cv ch ctk cS F9 N9 cl cL cP; obtain ⟨fs, cf, cK, cN⟩ := PF.come (by k_asm) (by k_asm) cP; clear cP cS cl cL; (replace AA := up3 AA cN (by fail "mine mem2") (by fail "mine mem2") (by fail "mine mem2")); (try (replace aD := AllNe.ins3 aD (cN (du, _) (by fail "mine mem2")))); (try (replace aT := AllNe.ins4 aT (cN (td, _) (by fail "mine mem2")))); (first | (replace N9 := ins8 cK N9) | (replace N9 := ins7 cK N9) | (replace N9 := ins6 cK N9) | (replace N9 := ins5 cK N9) | (replace N9 := ins4 cK N9) | (replace N9 := ins3 cK N9)); clear cK cN); (try k_sweep); (try dsimp only); (try k_fold)))))))) | ((k_here; (with_reducible show wpAny _ _ (call (Value.ref 821) _) _ _ _); k_dflt (((fail "fq"; refine' CtP.use (back_seg SS9 _ _ _ _ _ _ _) ?qzB ?qzF ?qzX ?qzN ?qzT ?qzK1 ?qzK ?qzp ?qzd ?qzu ?_); ((((case qzB => k_asm); (case qzF => k_asm); (case qzX => k_asm); (case qzN => k_asm); (case qzT => k_asm); (case qzK1 => first | exact rfl | assumption); (case qzK => first | exact rfl | assumption)))); (case qzp => exact ⟨SegP.use SS9 (by k_asm) (by fail "mine sub"), ssl⟩); (case qzd => ktr_room); (case qzu => ktr_units); ((((intro cv ch ctk cS F9 N9 cl cL cP; obtain ⟨fs, cf, cK, cN⟩ := PF.come (by k_asm) (by k_asm) cP; clear cP cS cl cL; (replace AA := up3 AA cN (by fail "mine mem2") (by fail "mine mem2") (by fail "mine mem2")); (try (replace aD := AllNe.ins3 aD (cN (du, _) (by fail "mine mem2")))); (try (replace aT := AllNe.ins4 aT (cN (td, _) (by fail "mine mem2")))); (first | (replace N9 := ins8 cK N9) | (replace N9 := ins7 cK N9) | (replace N9 := ins6 cK N9) | (replace N9 := ins5 cK N9) | (replace N9 := ins4 cK N9) | (replace N9 := ins3 cK N9)); clear cK cN); (try k_sweep); (try dsimp only); (try k_fold)))))))) | ((k_here; (with_reducible show wpAny _ _ (call (Value.ref 816) _) _ _ _); k_dflt (((fail "fq"; refine' CtP.use (ahead_seg SS9 _ _ _ _ _ _ _) ?qzB ?qzF ?qzX ?qzN ?qzT ?qzK1 ?qzK ?qzp ?qzd ?qzu ?_); ((((case qzB => k_asm); (case qzF => k_asm); (case qzX => k_asm); (case qzN => k_asm); (case qzT => k_asm); (case qzK1 => first | exact rfl | assumption); (case qzK => first | exact rfl | assumption)))); (case qzp => exact ⟨SegP.use SS9 (by k_asm) (by fail "mine sub"), ssl⟩); (case qzd => ktr_room); (case qzu => ktr_units); ((((intro cv ch ctk cS F9 N9 cl cL cP; obtain ⟨fs, cf, cK, cN⟩ := PF.come (by k_asm) (by k_asm) cP; clear cP cS cl cL; (replace AA := up3 AA cN (by fail "mine mem2") (by fail "mine mem2") (by fail "mine mem2")); (try (replace aD := AllNe.ins3 aD (cN (du, _) (by fail "mine mem2")))); (try (replace aT := AllNe.ins4 aT (cN (td, _) (by fail "mine mem2")))); (first | (replace N9 := ins8 cK N9) | (replace N9 := ins7 cK N9) | (replace N9 := ins6 cK N9) | (replace N9 := ins5 cK N9) | (replace N9 := ins4 cK N9) | (replace N9 := ins3 cK N9)); clear cK cN); (try k_sweep); (try dsimp only); (try k_fold)))))))) | ((k_here; (with_reducible show wpAny _ _ (call (Value.ref 806) _) _ _ _); k_dflt (((fail "fq"; refine' CtM.useR (draw_seg SD _ dk _ _ _ _ _ (KB.ok kbT ?qzs2) ?qzs3) ?qzB ?qzF ?qzX ?qzN ?qzT ?qzK1 ?qzK (Rems.cons (Rem.head (AllNe.all A0)) Rems.nil) ?qzp ?qzd ?qzu ?_); (case qzB => (k_asm)); (case qzF => (k_asm)); (case qzX => (k_asm)); (case qzN => (first | k_asm | exact drop1 (by k_asm))); (case qzT => (k_asm)); (case qzK1 => (first | exact rfl | assumption)); (case qzK => (first | exact rfl | assumption)); (case qzs2 => decide); (case qzs3 => first | exact ⟨by decide, by decide⟩ | exact many_ok' b8 (by decide) (by decide)); (case qzp => (intro g2 G2 S2; have z9 := SegP.onG SD (by k_asm) (by first | fail "mine sub" | fail) A1 G2; exact ⟨z9, len40⟩)); (case qzd => (ktr_room)); (case qzu => (ktr_units)); (intro cv ch ctk cG F9 N9 cO cP; obtain ⟨r9, t9, tk9, n9, cV, r91, r92, cD⟩ := cP; replace N9 := news_put N9 cD (cO _ (List.Mem.head _)); replace kbT := KB.succ kbT; clear cG cO cD; subst cV; (try k_sweep); (try dsimp only); (try k_fold)))))) | ((k_here; (with_reducible show wpAny _ _ (call (Value.ref 811) _) _ _ _); k_dflt (((fail "fq"; refine' CtP.use (stands_c _ _ _ _ _ _ (str_len b8) (str_len b7)) ?qzB ?qzF ?qzX ?qzN ?qzT ?qzK1 ?qzK trivial ?qzd ?qzu ?_); (case qzB => k_asm); (case qzF => k_asm); (case qzX => k_asm); (case qzN => k_asm); (case qzT => k_asm); (case qzK1 => first | exact rfl | assumption); (case qzK => first | exact rfl | assumption); (case qzd => ktr_room); (case qzu => ktr_units); (intro cv ch ctk cS F9 N9 cl cL cP; obtain ⟨lS, wsS, nS, cV, cQ, hiS, cR⟩ := cP; obtain ⟨NS, dS⟩ := fresh_onto (by k_asm) (by k_asm) N9 cQ cR; clear cl cL cS cQ cR N9; subst cV; (try k_sweep); (try dsimp only); (try k_fold)))))) | ((k_here; (with_reducible show wpAny _ _ (call (Value.ref 806) _) _ _ _); k_dflt (((fail "fq"; refine' CtM.useR (draw_c _ _ _ _ _ _ _ _ _ (KB.ok ?qzs1 ?qzs2) ⟨?qzs3, ?qzs4⟩) ?qzB ?qzF ?qzX ?qzN ?qzT ?qzK1 ?qzK ?qzR ?qzp ?qzd ?qzu ?_); (case qzB => (k_asm)); (case qzF => (k_asm)); (case qzX => (k_asm)); (case qzN => (k_asm)); (case qzT => (k_asm)); (case qzK1 => (first | exact rfl | assumption)); (case qzK => (first | exact rfl | assumption)); (case qzR => (fail "mine rems")); (case qzs1 => (fail "mine kb")); (case qzs2 => decide); (case qzs3 => first | decide | omega); (case qzs4 => first | decide | omega); (case qzp => (intro g2 G2 S2; exact ⟨⟨_, ⟨_, G2 _ _ (News.get (by k_asm) (by k_mem)) (by simp; k_ne), rfl, _, rfl⟩, by assumption⟩, len40⟩)); (case qzd => (ktr_room)); (case qzu => (ktr_units)); (intro cv ch ctk cG F9 N9 cO cP; obtain ⟨r9, t9, tk9, n9, cV, r91, r92, cD⟩ := cP; replace N9 := news_put N9 cD (cO _ (List.Mem.head _)); clear cG cO cD; subst cV; (try k_sweep); (try dsimp only); (try k_fold)); )))) | fail) | walk1 | (k_end; wrow_close) | (dsimp only; walk1) | (leave1; try dsimp only) | (dsimp only) | fail "no step"))); ((((intro cv ch ctk cS F9 N9 cl cL cP; obtain ⟨fs, cf, cK, cN⟩ := PF.come (by k_asm) (by k_asm) cP; clear cP cS cl cL; (replace AA := up3 AA cN (by fail "mine mem2") (by fail "mine mem2") (by fail "mine mem2")); (try (replace aD := AllNe.ins3 aD (cN (du, _) (by fail "mine mem2")))); (try (replace aT := AllNe.ins4 aT (cN (td, _) (by fail "mine mem2")))); (first | (replace N9 := ins8 cK N9) | (replace N9 := ins7 cK N9) | (replace N9 := ins6 cK N9) | (replace N9 := ins5 cK N9) | (replace N9 := ins4 cK N9) | (replace N9 := ins3 cK N9)); clear cK cN); (try k_sweep); (try dsimp only); (try k_fold)))))))) | ((fail "fq"; refine' CtP.use (againB_seg SV SI SS9 mf _ ?qhC _ _ _ _ ?qhpl ?qhc) ?qzB ?qzF ?qzX ?qzN ?qzT ?qzK1 ?qzK ?qzp ?qzd ?qzu ?_); (case qhc => exact cnt_ok' (by assumption) (by assumption)); (case qhpl => exact pl_okN (by assumption) (by assumption)); (((((((case qzB => k_asm); (case qzF => k_asm); (case qzX => k_asm); (case qzN => k_asm); (case qzT => k_asm); (case qzK1 => first | exact rfl | assumption); (case qzK => first | exact rfl | assumption)))); (case qzp => exact Stands.of (by k_asm) (by fail "mine sub") (by fail "mine sub")); (case qzd => ktr_room); (case qzu => ktr_units); (case qhC => ((((simp only [ofN_length]); intro p91 t91 h91 h92; (refine' CtP.mkL (fun _ hp => hp _ (List.mem_append_left _ mf)) SR ?qk9 ?qkB ?qkz ?qc2 ?qc3 ?qc4 ?qc5 ?_; (case qk9 => rfl); (case qc5 => decide +kernel); (case qkB => exact locs rfl); (case qkz => dsimp only [List.map, List.zip, List.zipWith, List.reverse, List.reverseAux]; try exact rfl); (case qc2 => exact rfl); (case qc3 => exact rfl); (case qc4 => exact rfl)); intro p loose mean mg mb dp un gd env outer base sh sg sd so Q E hdp hu hp hret L₁ h₁ tk₁ mm F₁ N₁ B₁ X₁ T₁ A₁ ek gk; have bd : Bnd mm := Bnd.mk; have g6 := hp _ (List.mem_append_right _ k6); have g5 := hp _ (List.mem_append_right _ k5); have g4 := hp _ (List.mem_append_right _ k4); have g3 := hp _ (List.mem_append_right _ k3); have g2 := hp _ (List.mem_append_right _ k2); have g1 := hp _ (List.mem_append_right _ k1))); repeat' ((fail_if_success (with_reducible show Q _ _)); first | fail "unf" | ((with_reducible show GoodW _ _ _ _ _ _ _); first | ((k_dflt (refine' goodW_bool ?qzg1 ?qzg2 ?qzg3 ?qzg4 ?qzg5; (case qzg1 => k_asm); (case qzg2 => k_asm); (case qzg3 => (intro _; kernel_rfl!)); (case qzg4 => kernel_rfl!); (case qzg5 => first | rfl | kernel_rfl!); ))) | fail) | ((with_reducible show wpAny _ _ (eval (Expr.Name _ _) _) _ _ _); first | ((k_here; first | ((with_reducible show wpAny _ _ (eval (Expr.Name _ _) (compEnvC _ _ _ _)) _ _ _); k_dflt (first | (refine' kcf_cell ?qzN ?qzc ?qzm ?qzd ?_ ?qza ?qzb; (case qza => rfl); (case qzb => rfl); (case qzN => k_asm); (case qzc => rfl); (case qzm => fail "mine mem2"); (case qzd => k_asm); k_whole) | (refine' LCgL.ld_own ?qza ?qzb ?qzc ?qzd ?_; (case qza => k_asm); (case qzb => k_mem); (case qzc => assumption); (case qzd => assumption); k_whole) | (refine' LCgL.ld_global ?qza ?qzb ?qzc ?qzd ?_; (case qza => k_asm); (case qzb => k_asm); (case qzc => k_asm); (case qzd => k_is); k_whole) | (refine' LCgL.ld_built ?qza ?qzb ?qzc ?qzd ?qze ?qzf ?_; (case qza => k_asm); (case qzb => k_asm); (case qzc => k_asm); (case qzd => k_is); (case qze => boot_by_name); (case qzf => decide); k_whole))) | k_dflt (first | (refine' name_L ?qzF ?qzv ?qzo ?_; (case qzo => decide +kernel); (case qzF => k_asm); (case qzv => rfl); k_whole) | (refine' name_G ?qzF ?qzX ?qzT ?qze ?qzo ?_; (case qzo => decide +kernel); (case qzF => k_asm); (case qzX => k_asm); (case qzT => k_asm); (case qze => k_is); k_whole) | (refine' name_C ?qzN ?qzc ?qzm ?qzd ?qzo ?_; (case qzo => decide +kernel); (case qzN => k_asm); (case qzc => rfl); (case qzm => fail "mine mem2"); (case qzd => k_asm); k_whole) | (refine' name_I ?qzF ?qzX ?qzT ?qze ?qzv ?qzn ?qzo ?_; (case qzo => decide +kernel); (case qzF => k_asm); (case qzX => k_asm); (case qzT => k_asm); (case qze => k_is); (case qzv => boot_fast); (case qzn => decide); k_whole)))) | ((k_here; (with_reducible show wpAny _ _ (eval (Expr.Name _ _) (compEnvC _ _ _ _)) _ _ _); k_dflt (refine' kcf_cell ?qN ?qc ?qm ?qd ?_ ?qa ?qb; (case qa => rfl); (case qb => rfl); (case qN => k_asm); (case qc => rfl); (case qm => fail "mine mem2"); (case qd => k_asm); k_whole))) | ((k_here; k_dflt (refine' nameX_G ?qF ?qc ?qg ?qd ?_ ?qa ?qb; (case qa => rfl); (case qb => rfl); (case qF => k_asm); (case qc => rfl); (case qg => first | exact g6 | exact g5 | exact g4 | exact g3 | exact g2 | exact g1); (case qd => k_asm); k_whole))) | ((k_here; k_dflt (refine' nameX_C ?qN ?qc ?qm ?qd ?_ ?qa ?qb; (case qa => rfl); (case qb => rfl); (case qN => k_asm); (case qc => rfl); (case qm => fail "mine mem2"); (case qd => k_asm); k_whole))) | fail) | ((with_reducible show wpAny _ _ (callWith _ (Value.ref _) _ _ _) _ _ _); first | ((k_here; k_dflt (first | (refine' callWith_K ?qk1 ?qk2 ?_; (case qk1 => k_asm); (case qk2 => k_is); k_whole) | (refine' callWith_K0F ?qk0 ?qk1 ?qk2 ?_; (case qk0 => k_asm); (case qk1 => k_asm); (case qk2 => k_is); k_whole) | (refine' callWith_KW ?qk1 ?qk2 ?qk3 ?_; (case qk1 => k_asm); (case qk2 => k_is); (case qk3 => exact rfl); k_whole) | (refine' callWith_KW0 ?qk1 ?qk2 ?qk3 ?_; (case qk1 => k_asm); (case qk2 => k_is); (case qk3 => exact rfl); k_whole)))) | ((k_here; k_dflt (refine' callWith_K ?qk1 ?qk2 ?_; (case qk1 => k_asm); (case qk2 => k_is); k_whole))) | fail) | ((with_reducible show EndX _ _ _ _ _ _ _); first | ((k_dflt ((refine' jt_out ?qjF ?qjN AA n1 n2 ?qjm ⟨KB.four hkb, LoopI.up hLI ?qjs AA.1 AA.2.2 (TabSt.up TS ?qjt)⟩; (case qjF => k_asm); (case qjN => first | k_asm | exact drop1 (by k_asm) | exact drop1 (drop1 (by k_asm)) | exact drop1 (drop1 (drop1 (by k_asm))) | exact drop1 (drop1 (drop1 (drop1 (by k_asm)))) | exact drop1 (drop1 (drop1 (drop1 (drop1 (by k_asm)))))); (case qjm => ((intro z h1 h2; (try dsimp +zetaDelta only); (simp only [List.contains_cons, List.contains_nil, Bool.or_false, Bool.or_eq_false_iff, beq_eq_false_iff_ne, ne_eq] at h1 h2); (simp [h1, h2]; done)))); (case qjs => fail "mine sub"); (case qjt => fail "mine sub"))))) | fail) | ((with_reducible show wpAny _ _ (compareOp CmpOp.NotEq _ _) _ _ _); first | ((k_here; k_dflt ((refine ne_find (FindIn.at (reS (by assumption) (by assumption)) (by k_asm) (by fail "mine sub")) (FindIn.at (by assumption) (by k_asm) (by fail "mine sub")) (by ktr_units) ?_)))) | fail) | ((with_reducible show wpAny _ _ (compareOp CmpOp.NotEq (Value.ref _) (Value.ref _)) _ _ _); first | ((k_here; (with_reducible show wpAny _ _ (compareOp CmpOp.NotEq (Value.ref _) (Value.ref _)) _ _ _); k_dflt ((refine ne_finds (by k_asm) (by fail "mine mem2") (by fail "mine mem2") rfl rfl rfl rfl VT hf9 (by fail "mine sub") (by fail "mine sub") (by ktr_units) ?_)))) | fail) | ((with_reducible show LCg.CompSrc _ _ _ _ _ _ _ _ _ _ _ _ _ _); first | ((k_here; k_dflt (((rename News _ _ _ _ => lN'); (refine LCg.CompSrc.ledger (by rfl) (by k_asm) lN' (by fail "mine mem2") (Nat.le_of_ble_eq_true rfl) ?_; intro g'; refine comp_moved' VT VD (fun i9 o9 v9 ys9 fs9 I' oI' C' oC' D' m' h' tk' E' ho9 hv9 hI9 hC' hx' F' N' off9 ne' => ?_) (fun ys9 fs9 hf9 => ?_)))); (all_goals (try k_fold)))) | fail) | ((with_reducible show wpAny _ _ (eval (Expr.Lambda _ _ _ _) _) _ _ _); first | ((k_here; k_dflt (((refine' kla_eval ?qd0 ?_; (case qd0 => exact rfl)); (refine' lam_come ?qF ?qN ?qT ?qC ?qcd (rem5 nT nD hdk9 n1 AA.2.2) TS ?qhq ?qcl ?_; (case qF => k_asm); (case qN => k_asm); (case qT => k_asm); (case qcd => exact rfl); (case qC => (rw [hPT]; kn_code)); (case qhq => first | exact rfl | decide +kernel); (case qcl => exact rfl)); (intro f9 c9 ctv9 pt9 ls h' tk' F9 N9 cK cP cN mf SR TS9; replace AA := up3L AA cN cP (by fail "mine mem2") (by fail "mine mem2"); replace aT := aT_up (o' := tabObj pt9) aT cN (by fail "mine mem2"); replace N9 := ins5 cK (rot5 N9); clear cK cP cN; replace TS := TS9); (try k_sweep); (try dsimp only); (try k_fold))))) | fail) | ((with_reducible show wpAny _ _ (call (Value.builtin "list.append") _) _ _ _); first | ((k_here; (with_reducible show wpAny _ _ (call (Value.builtin _) [Value.ref _, _]) _ _ _); k_dflt (((refine' append_K ?qk1 ?qk2 ?qk3 ?_ ?qz; (case qk1 => k_asm); (case qk2 => k_asm); (case qk3 => first | exact Upd.head (AllNe.all aT) | exact Upd.head (AllNe.all aD)); (case qz => exact Nat.le_of_ble_eq_true rfl); k_whole); intro h' F' N'; (try k_sweep))))) | fail) | ((with_reducible show wpAny _ _ (call (Value.builtin "len") _) _ _ _); first | ((k_here; (with_reducible show wpAny _ _ (call (Value.builtin "len") [Value.str _ _]) _ _ _); k_dflt (first | refine len_text b8 (by decide) ?_ | refine len_text b7 (by decide) ?_))) | fail) | ((with_reducible show wpAny _ _ (call (Value.type _) [Value.ref _]) _ _ _); first | ((k_here; (with_reducible show wpAny _ _ (call (Value.type _) [Value.ref _]) _ _ _); k_dflt (refine' list_ofLst ?qF ?qN ?qb ?qi ?ql ?qz ?_; (case qF => k_asm); (case qN => k_asm); (case qb => k_mem); (case qi => assumption); (case ql => assumption); (case qz => decide)); intro D' c' h' F' N' l1; (try k_lt l1); (try k_sweep))) | fail) | ((with_reducible show LCg.CompEnd _ _ _ _ _ _ _ _ _ _ _ _ _ _); first | ((k_here; k_dflt (refine keep_end (by k_asm) N' off' trivial (OrdR.step hi' hc' (by rfl))))) | fail) | ((with_reducible show TxtSrc _ _ _ _ _ _ _ _ _ _ _ _ _ _); first | ((k_here; k_dflt (((rename News _ _ _ _ => lN'); (refine ⟨_, _, _, rfl, rfl, by k_asm, lN', by exact txt_size (by assumption) (by decide), fun g' => comp_ords (fun i' c' ys' u' I' oI' C' oC' D' m' h' tk' E' hc' hm' hi' hC' hx' F' N' off' ne' => ?_) (fun ys' hy' => ?_)⟩))))) | fail) | ((with_reducible show wpAny _ _ (call (Value.builtin "str.join") _) _ _ _); first | ((k_here; first | (k_dflt (refine' join_drawn ?qk1 hR7 ?qk2 ?_; (case qk1 => exact News.isList (by k_asm) (by k_mem)); (case qk2 => exact len_r (by assumption) (by assumption) (by decide))); intro _ _) | (k_dflt (refine' join_drawn ?qk1 hR8 ?qk2 ?_; (case qk1 => exact News.isList (by k_asm) (by k_mem)); (case qk2 => exact len_r (by assumption) (by assumption) (by decide))); intro _ _) | fail)) | fail) | ((with_reducible show wpAny _ _ (call (Value.ref _) _) _ _ _); first | ((k_here; (first | (with_reducible show wpAny _ _ (call (Value.ref 795) _) _ _ _) | (with_reducible show wpAny _ _ (call (Value.ref 626) _) _ _ _)); k_dflt (refine' call_cls ?qk1 ?qk2 ?qk3 ?qk4 ?qk5 ?qk6 ?_; (case qk1 => k_asm); (case qk2 => k_asm); (case qk3 => k_asm); (case qk4 => k_is); (case qk5 => k_is); (case qk6 => k_is); k_whole; intro x' d' h' F' N' l1 l2; (try k_lt l1); (try k_lt2 l2); (try k_sweep); k_enter; ))) | ((k_here; (with_reducible show wpAny _ _ (call (Value.ref 672) _) _ _ _); k_dflt (((fail "fq"; refine' CtP.use (match_seg hR7 hiQ hy' b7 b8 ?qzs1 ?qzs2 _ _ _ _ _) ?qzB ?qzF ?qzX ?qzN ?qzT ?qzK1 ?qzK ?qzp ?qzd ?qzu ?_); ((((case qzB => k_asm); (case qzF => k_asm); (case qzX => k_asm); (case qzN => k_asm); (case qzT => k_asm); (case qzK1 => first | exact rfl | assumption); (case qzK => first | exact rfl | assumption)))); (case qzs1 => assumption); (case qzs2 => assumption); (case qzp => exact ⟨ints_at (by k_asm) (by fail "mine mem2") hiQ, ints_at (by k_asm) (by fail "mine mem2") hy'⟩); (case qzd => ktr_room); (case qzu => ktr_units); ((((intro cv ch ctk cS F9 N9 cl cL cP; obtain ⟨fs, cf, cK, cN⟩ := PF.come (by k_asm) (by k_asm) cP; clear cP cS cl cL; (replace AA := up3 AA cN (by fail "mine mem2") (by fail "mine mem2") (by fail "mine mem2")); (try (replace aD := AllNe.ins3 aD (cN (du, _) (by fail "mine mem2")))); (try (replace aT := AllNe.ins4 aT (cN (td, _) (by fail "mine mem2")))); (first | (replace N9 := ins8 cK N9) | (replace N9 := ins7 cK N9) | (replace N9 := ins6 cK N9) | (replace N9 := ins5 cK N9) | (replace N9 := ins4 cK N9) | (replace N9 := ins3 cK N9)); clear cK cN); (try k_sweep); (try dsimp only); (try k_fold)))))))) | ((k_here; (with_reducible show wpAny _ _ (call (Value.ref 679) _) _ _ _); k_dflt (((fail "fq"; refine' CtP.use (quote_seg SI hR7 b7 _) ?qzB ?qzF ?qzX ?qzN ?qzT ?qzK1 ?qzK ?qzp ?qzd ?qzu ?_); ((((case qzB => k_asm); (case qzF => k_asm); (case qzX => k_asm); (case qzN => k_asm); (case qzT => k_asm); (case qzK1 => first | exact rfl | assumption); (case qzK => first | exact rfl | assumption)))); (case qzp => exact SegP.use SI (by k_asm) (by fail "mine sub")); (case qzd => ktr_room); (case qzu => ktr_units); (intro cv ch ctk cS F9 N9 cl cL cP; obtain ⟨lQ, wsQ, nQ, cV, cQ, hiQ, cR⟩ := cP; obtain ⟨NS, dQ⟩ := fresh_onto (by k_asm) (by k_asm) N9 cQ cR; clear cl cL cS cQ cR N9; subst cV; (try k_sweep); (try dsimp only); (try k_fold)))))) | ((k_here; (with_reducible show wpAny _ _ (call (Value.ref 833) _) _ _ _); k_dflt (((fail "fq"; refine' CtP.use (law_moved_c _ _ o9 _ _) ?qzB ?qzF ?qzX ?qzN ?qzT ?qzK1 ?qzK ?qzp ?qzd ?qzu ?_); ((((case qzB => k_asm); (case qzF => k_asm); (case qzX => k_asm); (case qzN => k_asm); (case qzT => k_asm); (case qzK1 => first | exact rfl | assumption); (case qzK => first | exact rfl | assumption)))); (case qzp => exact FindIn.at hv9 (by k_asm) (by fail "mine sub")); (case qzd => ktr_room); (case qzu => ktr_units); (intro cv ch ctk cS F9 N9 cl cL cP; exact moved_end (by k_asm) F9 (by k_asm) N9 off9 cP ho9 hI9 (fun fs => src_at (by fail "mine mem2") fs)))))) | ((k_here; (with_reducible show wpAny _ _ (call (Value.ref 651) _) _ _ _); k_dflt (((fail "fq"; refine' CtP.use (searchB_seg SV SI _ _ _ _ _ _) ?qzB ?qzF ?qzX ?qzN ?qzT ?qzK1 ?qzK ?qzp ?qzd ?qzu ?_); ((((case qzB => k_asm); (case qzF => k_asm); (case qzX => k_asm); (case qzN => k_asm); (case qzT => k_asm); (case qzK1 => first | exact rfl | assumption); (case qzK => first | exact rfl | assumption)))); (case qzp => exact pre_lam hp (Fr.keep (by k_asm)) SV SI psl (by exact strongP h91 h92 b8 (by assumption) (by assumption)) (by exact strongB (by assumption) (by assumption))); (case qzd => ktr_room); (case qzu => ktr_units); (intro cv ch ctk cS F9 N9 cl cL cP; exact hret _ _ _ (Fr.keep F9) (PF.back (Fr.keep (by k_asm)) cP)))))) | ((k_here; (with_reducible show wpAny _ _ (call (Value.ref 644) _) _ _ _); k_dflt (((fail "fq"; refine' CtP.use (searchF_seg SV SI _ _ _ _ _ _) ?qzB ?qzF ?qzX ?qzN ?qzT ?qzK1 ?qzK ?qzp ?qzd ?qzu ?_); ((((case qzB => k_asm); (case qzF => k_asm); (case qzX => k_asm); (case qzN => k_asm); (case qzT => k_asm); (case qzK1 => first | exact rfl | assumption); (case qzK => first | exact rfl | assumption)))); (case qzp => exact pre_lam hp (Fr.keep (by k_asm)) SV SI psl (by exact strongP h91 h92 b8 (by assumption) (by assumption)) (by exact strongN b8 (by assumption) (by assumption))); (case qzd => ktr_room); (case qzu => ktr_units); (intro cv ch ctk cS F9 N9 cl cL cP; exact hret _ _ _ (Fr.keep F9) (PF.back (Fr.keep (by k_asm)) cP)))))) | ((k_here; (with_reducible show wpAny _ _ (call (Value.ref 651) _) _ _ _); k_dflt (((fail "fq"; refine' CtP.use (searchB_seg SV SI _ _ _ _ _ _) ?qzB ?qzF ?qzX ?qzN ?qzT ?qzK1 ?qzK ?qzp ?qzd ?qzu ?_); ((((case qzB => k_asm); (case qzF => k_asm); (case qzX => k_asm); (case qzN => k_asm); (case qzT => k_asm); (case qzK1 => first | exact rfl | assumption); (case qzK => first | exact rfl | assumption)))); (case qzp => exact pre_search SV SI (by k_asm) (by fail "mine sub") psl (by exact rng_ok (by assumption) (by assumption) (by decide) b8 (by assumption) (by assumption)) (by exact rng_ok (by assumption) (by assumption) (by decide) b8 (by assumption) (by assumption))); (case qzd => ktr_room); (case qzu => ktr_units); ((((intro cv ch ctk cS F9 N9 cl cL cP; obtain ⟨fs, cf, cK, cN⟩ := PF.come (by k_asm) (by k_asm) cP; clear cP cS cl cL; (replace AA := up3 AA cN (by fail "mine mem2") (by fail "mine mem2") (by fail "mine mem2")); (try (replace aD := AllNe.ins3 aD (cN (du, _) (by fail "mine mem2")))); (try (replace aT := AllNe.ins4 aT (cN (td, _) (by fail "mine mem2")))); (first | (replace N9 := ins8 cK N9) | (replace N9 := ins7 cK N9) | (replace N9 := ins6 cK N9) | (replace N9 := ins5 cK N9) | (replace N9 := ins4 cK N9) | (replace N9 := ins3 cK N9)); clear cK cN); (try k_sweep); (try dsimp only); (try k_fold)))))))) | ((k_here; (with_reducible show wpAny _ _ (call (Value.ref 644) _) _ _ _); k_dflt (((fail "fq"; refine' CtP.use (searchF_seg SV SI _ _ _ _ _ _) ?qzB ?qzF ?qzX ?qzN ?qzT ?qzK1 ?qzK ?qzp ?qzd ?qzu ?_); ((((case qzB => k_asm); (case qzF => k_asm); (case qzX => k_asm); (case qzN => k_asm); (case qzT => k_asm); (case qzK1 => first | exact rfl | assumption); (case qzK => first | exact rfl | assumption)))); (case qzp => exact pre_search SV SI (by k_asm) (by fail "mine sub") psl (by exact rng_ok (by assumption) (by assumption) (by decide) b8 (by assumption) (by assumption)) (by exact rng_ok (by assumption) (by assumption) (by decide) b8 (by assumption) (by assumption))); (case qzd => ktr_room); (case qzu => ktr_units); ((((intro cv ch ctk cS F9 N9 cl cL cP; obtain ⟨fs, cf, cK, cN⟩ := PF.come (by k_asm) (by k_asm) cP; clear cP cS cl cL; (replace AA := up3 AA cN (by fail "mine mem2") (by fail "mine mem2") (by fail "mine mem2")); (try (replace aD := AllNe.ins3 aD (cN (du, _) (by fail "mine mem2")))); (try (replace aT := AllNe.ins4 aT (cN (td, _) (by fail "mine mem2")))); (first | (replace N9 := ins8 cK N9) | (replace N9 := ins7 cK N9) | (replace N9 := ins6 cK N9) | (replace N9 := ins5 cK N9) | (replace N9 := ins4 cK N9) | (replace N9 := ins3 cK N9)); clear cK cN); (try k_sweep); (try dsimp only); (try k_fold)))))))) | ((k_here; (with_reducible show wpAny _ _ (call (Value.ref 828) _) _ _ _); k_dflt (((fail "fq"; refine' CtP.use (often_seg SS9 _ _ _ _ _ _ _ _ _ ?qzs1) ?qzB ?qzF ?qzX ?qzN ?qzT ?qzK1 ?qzK ?qzp ?qzd ?qzu ?_); ((((case qzB => k_asm); (case qzF => k_asm); (case qzX => k_asm); (case qzN => k_asm); (case qzT => k_asm); (case qzK1 => first | exact rfl | assumption); (case qzK => first | exact rfl | assumption)))); (case qzs1 => first | exact cnt_ok (by assumption) (by assumption) | exact cnt_ok' (by assumption) (by assumption)); (case qzp => exact ⟨SegP.use SS9 (by k_asm) (by fail "mine sub"), ssl⟩); (case qzd => ktr_room); (case qzu => ktr_units); ((((intro cv ch ctk cS F9 N9 cl cL cP; obtain ⟨fs, cf, cK, cN⟩ := PF.come (by k_asm) (by k_asm) cP; clear cP cS cl cL; (replace AA := up3 AA cN (by fail "mine mem2") (by fail "mine mem2") (by fail "mine mem2")); (try (replace aD := AllNe.ins3 aD (cN (du, _) (by fail "mine mem2")))); (try (replace aT := AllNe.ins4 aT (cN (td, _) (by fail "mine mem2")))); (first | (replace N9 := ins8 cK N9) | (replace N9 := ins7 cK N9) | (replace N9 := ins6 cK N9) | (replace N9 := ins5 cK N9) | (replace N9 := ins4 cK N9) | (replace N9 := ins3 cK N9)); clear cK cN); (try k_sweep); (try dsimp only); (try k_fold)))))))) | ((k_here; (with_reducible show wpAny _ _ (call (Value.ref 821) _) _ _ _); k_dflt (((fail "fq"; refine' CtP.use (back_seg SS9 _ _ _ _ _ _ _) ?qzB ?qzF ?qzX ?qzN ?qzT ?qzK1 ?qzK ?qzp ?qzd ?qzu ?_); ((((case qzB => k_asm); (case qzF => k_asm); (case qzX => k_asm); (case qzN => k_asm); (case qzT => k_asm); (case qzK1 => first | exact rfl | assumption); (case qzK => first | exact rfl | assumption)))); (case qzp => exact ⟨SegP.use SS9 (by k_asm) (by fail "mine sub"), ssl⟩); (case qzd => ktr_room); (case qzu => ktr_units); ((((intro cv ch ctk cS F9 N9 cl cL cP; obtain ⟨fs, cf, cK, cN⟩ := PF.come (by k_asm) (by k_asm) cP; clear cP cS cl cL; (replace AA := up3 AA cN (by fail "mine mem2") (by fail "mine mem2") (by fail "mine mem2")); (try (replace aD := AllNe.ins3 aD (cN (du, _) (by fail "mine mem2")))); (try (replace aT := AllNe.ins4 aT (cN (td, _) (by fail "mine mem2")))); (first | (replace N9 := ins8 cK N9) | (replace N9 := ins7 cK N9) | (replace N9 := ins6 cK N9) | (replace N9 := ins5 cK N9) | (replace N9 := ins4 cK N9) | (replace N9 := ins3 cK N9)); clear cK cN); (try k_sweep); (try dsimp only); (try k_fold)))))))) | ((k_here; (with_reducible show wpAny _ _ (call (Value.ref 816) _) _ _ _); k_dflt (((fail "fq"; refine' CtP.use (ahead_seg SS9 _ _ _ _ _ _ _) ?qzB ?qzF ?qzX ?qzN ?qzT ?qzK1 ?qzK ?qzp ?qzd ?qzu ?_); ((((case qzB => k_asm); (case qzF => k_asm); (case qzX => k_asm); (case qzN => k_asm); (case qzT => k_asm); (case qzK1 => first | exact rfl | assumption); (case qzK => first | exact rfl | assumption)))); (case qzp => exact ⟨SegP.use SS9 (by k_asm) (by fail "mine sub"), ssl⟩); (case qzd => ktr_room); (case qzu => ktr_units); ((((intro cv ch ctk cS F9 N9 cl cL cP; obtain ⟨fs, cf, cK, cN⟩ := PF.come (by k_asm) (by k_asm) cP; clear cP cS cl cL; (replace AA := up3 AA cN (by fail "mine mem2") (by fail "mine mem2") (by fail "mine mem2")); (try (replace aD := AllNe.ins3 aD (cN (du, _) (by fail "mine mem2")))); (try (replace aT := AllNe.ins4 aT (cN (td, _) (by fail "mine mem2")))); (first | (replace N9 := ins8 cK N9) | (replace N9 := ins7 cK N9) | (replace N9 := ins6 cK N9) | (replace N9 := ins5 cK N9) | (replace N9 := ins4 cK N9) | (replace N9 := ins3 cK N9)); clear cK cN); (try k_sweep); (try dsimp only); (try k_fold)))))))) | ((k_here; (with_reducible show wpAny _ _ (call (Value.ref 806) _) _ _ _); k_dflt (((fail "fq"; refine' CtM.useR (draw_seg SD _ dk _ _ _ _ _ (KB.ok kbT ?qzs2) ?qzs3) ?qzB ?qzF ?qzX ?qzN ?qzT ?qzK1 ?qzK (Rems.cons (Rem.head (AllNe.all A0)) Rems.nil) ?qzp ?qzd ?qzu ?_); (case qzB => (k_asm)); (case qzF => (k_asm)); (case qzX => (k_asm)); (case qzN => (first | k_asm | exact drop1 (by k_asm))); (case qzT => (k_asm)); (case qzK1 => (first | exact rfl | assumption)); (case qzK => (first | exact rfl | assumption)); (case qzs2 => decide); (case qzs3 => first | exact ⟨by decide, by decide⟩ | exact many_ok' b8 (by decide) (by decide)); (case qzp => (intro g2 G2 S2; have z9 := SegP.onG SD (by k_asm) (by first | fail "mine sub" | fail) A1 G2; exact ⟨z9, len40⟩)); (case qzd => (ktr_room)); (case qzu => (ktr_units)); (intro cv ch ctk cG F9 N9 cO cP; obtain ⟨r9, t9, tk9, n9, cV, r91, r92, cD⟩ := cP; replace N9 := news_put N9 cD (cO _ (List.Mem.head _)); replace kbT := KB.succ kbT; clear cG cO cD; subst cV; (try k_sweep); (try dsimp only); (try k_fold)))))) | ((k_here; (with_reducible show wpAny _ _ (call (Value.ref 811) _) _ _ _); k_dflt (((fail "fq"; refine' CtP.use (stands_c _ _ _ _ _ _ (str_len b8) (str_len b7)) ?qzB ?qzF ?qzX ?qzN ?qzT ?qzK1 ?qzK trivial ?qzd ?qzu ?_); (case qzB => k_asm); (case qzF => k_asm); (case qzX => k_asm); (case qzN => k_asm); (case qzT => k_asm); (case qzK1 => first | exact rfl | assumption); (case qzK => first | exact rfl | assumption); (case qzd => ktr_room); (case qzu => ktr_units); (intro cv ch ctk cS F9 N9 cl cL cP; obtain ⟨lS, wsS, nS, cV, cQ, hiS, cR⟩ := cP; obtain ⟨NS, dS⟩ := fresh_onto (by k_asm) (by k_asm) N9 cQ cR; clear cl cL cS cQ cR N9; subst cV; (try k_sweep); (try dsimp only); (try k_fold)))))) | ((k_here; (with_reducible show wpAny _ _ (call (Value.ref 806) _) _ _ _); k_dflt (((fail "fq"; refine' CtM.useR (draw_c _ _ _ _ _ _ _ _ _ (KB.ok ?qzs1 ?qzs2) ⟨?qzs3, ?qzs4⟩) ?qzB ?qzF ?qzX ?qzN ?qzT ?qzK1 ?qzK ?qzR ?qzp ?qzd ?qzu ?_); (case qzB => (k_asm)); (case qzF => (k_asm)); (case qzX => (k_asm)); (case qzN => (k_asm)); (case qzT => (k_asm)); (case qzK1 => (first | exact rfl | assumption)); (case qzK => (first | exact rfl | assumption)); (case qzR => (fail "mine rems")); (case qzs1 => (fail "mine kb")); (case qzs2 => decide); (case qzs3 => first | decide | omega); (case qzs4 => first | decide | omega); (case qzp => (intro g2 G2 S2; exact ⟨⟨_, ⟨_, G2 _ _ (News.get (by k_asm) (by k_mem)) (by simp; k_ne), rfl, _, rfl⟩, by assumption⟩, len40⟩)); (case qzd => (ktr_room)); (case qzu => (ktr_units)); (intro cv ch ctk cG F9 N9 cO cP; obtain ⟨r9, t9, tk9, n9, cV, r91, r92, cD⟩ := cP; replace N9 := news_put N9 cD (cO _ (List.Mem.head _)); clear cG cO cD; subst cV; (try k_sweep); (try dsimp only); (try k_fold)); )))) | fail) | walk1 | (k_end; wrow_close) | (dsimp only; walk1) | (leave1; try dsimp only) | (dsimp only) | fail "no step"))); ((((intro cv ch ctk cS F9 N9 cl cL cP; obtain ⟨fs, cf, cK, cN⟩ := PF.come (by k_asm) (by k_asm) cP; clear cP cS cl cL; (replace AA := up3 AA cN (by fail "mine mem2") (by fail "mine mem2") (by fail "mine mem2")); (try (replace aD := AllNe.ins3 aD (cN (du, _) (by fail "mine mem2")))); (try (replace aT := AllNe.ins4 aT (cN (td, _) (by fail "mine mem2")))); (first | (replace N9 := ins8 cK N9) | (replace N9 := ins7 cK N9) | (replace N9 := ins6 cK N9) | (replace N9 := ins5 cK N9) | (replace N9 := ins4 cK N9) | (replace N9 := ins3 cK N9)); clear cK cN); (try k_sweep); (try dsimp only); (try k_fold)))))))) | fail); replace SV := SegP.up SV (fun q hq => List.mem_append_right ls hq); replace SI := SegP.up SI (fun q hq => List.mem_append_right ls hq); replace SS9 := SegP.up SS9 (fun q hq => List.mem_append_right ls hq); replace k1 := List.mem_append_right ls k1; replace k2 := List.mem_append_right ls k2; replace k3 := List.mem_append_right ls k3; replace k4 := List.mem_append_right ls k4; replace k5 := List.mem_append_right ls k5; replace k6 := List.mem_append_right ls k6))) | ((k_here; (with_reducible show wpAny _ _ (call (Value.ref 651) _) _ _ _); k_dflt (((fail "fq"; refine' CtP.use (searchB_seg SV SI _ _ _ _ _ _) ?qzB ?qzF ?qzX ?qzN ?qzT ?qzK1 ?qzK ?qzp ?qzd ?qzu ?_); ((((case qzB => k_asm); (case qzF => k_asm); (case qzX => k_asm); (case qzN => k_asm); (case qzT => k_asm); (case qzK1 => first | exact rfl | assumption); (case qzK => first | exact rfl | assumption)))); (case qzp => exact pre_lam hp (Fr.keep (by k_asm)) SV SI psl (by exact strongP h91 h92 b8 (by assumption) (by assumption)) (by exact strongB (by assumption) (by assumption))); (case qzd => ktr_room); (case qzu => ktr_units); (intro cv ch ctk cS F9 N9 cl cL cP; exact hret _ _ _ (Fr.keep F9) (PF.back (Fr.keep (by k_asm)) cP)))))) | ((k_here; (with_reducible show wpAny _ _ (call (Value.ref 644) _) _ _ _); k_dflt (((fail "fq"; refine' CtP.use (searchF_seg SV SI _ _ _ _ _ _) ?qzB ?qzF ?qzX ?qzN ?qzT ?qzK1 ?qzK ?qzp ?qzd ?qzu ?_); ((((case qzB => k_asm); (case qzF => k_asm); (case qzX => k_asm); (case qzN => k_asm); (case qzT => k_asm); (case qzK1 => first | exact rfl | assumption); (case qzK => first | exact rfl | assumption)))); (case qzp => exact pre_lam hp (Fr.keep (by k_asm)) SV SI psl (by exact strongP h91 h92 b8 (by assumption) (by assumption)) (by exact strongN b8 (by assumption) (by assumption))); (case qzd => ktr_room); (case qzu => ktr_units); (intro cv ch ctk cS F9 N9 cl cL cP; exact hret _ _ _ (Fr.keep F9) (PF.back (Fr.keep (by k_asm)) cP)))))) | ((k_here; (with_reducible show wpAny _ _ (call (Value.ref 651) _) _ _ _); k_dflt (((fail "fq"; refine' CtP.use (searchB_seg SV SI _ _ _ _ _ _) ?qzB ?qzF ?qzX ?qzN ?qzT ?qzK1 ?qzK ?qzp ?qzd ?qzu ?_); ((((case qzB => k_asm); (case qzF => k_asm); (case qzX => k_asm); (case qzN => k_asm); (case qzT => k_asm); (case qzK1 => first | exact rfl | assumption); (case qzK => first | exact rfl | assumption)))); (case qzp => exact pre_search SV SI (by k_asm) (by fail "mine sub") psl (by exact rng_ok (by assumption) (by assumption) (by decide) b8 (by assumption) (by assumption)) (by exact rng_ok (by assumption) (by assumption) (by decide) b8 (by assumption) (by assumption))); (case qzd => ktr_room); (case qzu => ktr_units); ((((intro cv ch ctk cS F9 N9 cl cL cP; obtain ⟨fs, cf, cK, cN⟩ := PF.come (by k_asm) (by k_asm) cP; clear cP cS cl cL; (replace AA := up3 AA cN (by fail "mine mem2") (by fail "mine mem2") (by fail "mine mem2")); (try (replace aD := AllNe.ins3 aD (cN (du, _) (by fail "mine mem2")))); (try (replace aT := AllNe.ins4 aT (cN (td, _) (by fail "mine mem2")))); (first | (replace N9 := ins8 cK N9) | (replace N9 := ins7 cK N9) | (replace N9 := ins6 cK N9) | (replace N9 := ins5 cK N9) | (replace N9 := ins4 cK N9) | (replace N9 := ins3 cK N9)); clear cK cN); (try k_sweep); (try dsimp only); (try k_fold)))))))) | ((k_here; (with_reducible show wpAny _ _ (call (Value.ref 644) _) _ _ _); k_dflt (((fail "fq"; refine' CtP.use (searchF_seg SV SI _ _ _ _ _ _) ?qzB ?qzF ?qzX ?qzN ?qzT ?qzK1 ?qzK ?qzp ?qzd ?qzu ?_); ((((case qzB => k_asm); (case qzF => k_asm); (case qzX => k_asm); (case qzN => k_asm); (case qzT => k_asm); (case qzK1 => first | exact rfl | assumption); (case qzK => first | exact rfl | assumption)))); (case qzp => exact pre_search SV SI (by k_asm) (by fail "mine sub") psl (by exact rng_ok (by assumption) (by assumption) (by decide) b8 (by assumption) (by assumption)) (by exact rng_ok (by assumption) (by assumption) (by decide) b8 (by assumption) (by assumption))); (case qzd => ktr_room); (case qzu => ktr_units); ((((intro cv ch ctk cS F9 N9 cl cL cP; obtain ⟨fs, cf, cK, cN⟩ := PF.come (by k_asm) (by k_asm) cP; clear cP cS cl cL; (replace AA := up3 AA cN (by fail "mine mem2") (by fail "mine mem2") (by fail "mine mem2")); (try (replace aD := AllNe.ins3 aD (cN (du, _) (by fail "mine mem2")))); (try (replace aT := AllNe.ins4 aT (cN (td, _) (by fail "mine mem2")))); (first | (replace N9 := ins8 cK N9) | (replace N9 := ins7 cK N9) | (replace N9 := ins6 cK N9) | (replace N9 := ins5 cK N9) | (replace N9 := ins4 cK N9) | (replace N9 := ins3 cK N9)); clear cK cN); (try k_sweep); (try dsimp only); (try k_fold)))))))) | ((k_here; (with_reducible show wpAny _ _ (call (Value.ref 828) _) _ _ _); k_dflt (((fail "fq"; refine' CtP.use (often_seg SS9 _ _ _ _ _ _ _ _ _ ?qzs1) ?qzB ?qzF ?qzX ?qzN ?qzT ?qzK1 ?qzK ?qzp ?qzd ?qzu ?_); ((((case qzB => k_asm); (case qzF => k_asm); (case qzX => k_asm); (case qzN => k_asm); (case qzT => k_asm); (case qzK1 => first | exact rfl | assumption); (case qzK => first | exact rfl | assumption)))); (case qzs1 => first | exact cnt_ok (by assumption) (by assumption) | exact cnt_ok' (by assumption) (by assumption)); (case qzp => exact ⟨SegP.use SS9 (by k_asm) (by fail "mine sub"), ssl⟩); (case qzd => ktr_room); (case qzu => ktr_units); ((((intro cv ch ctk cS F9 N9 cl cL cP; obtain ⟨fs, cf, cK, cN⟩ := PF.come (by k_asm) (by k_asm) cP; clear cP cS cl cL; (replace AA := up3 AA cN (by fail "mine mem2") (by fail "mine mem2") (by fail "mine mem2")); (try (replace aD := AllNe.ins3 aD (cN (du, _) (by fail "mine mem2")))); (try (replace aT := AllNe.ins4 aT (cN (td, _) (by fail "mine mem2")))); (first | (replace N9 := ins8 cK N9) | (replace N9 := ins7 cK N9) | (replace N9 := ins6 cK N9) | (replace N9 := ins5 cK N9) | (replace N9 := ins4 cK N9) | (replace N9 := ins3 cK N9)); clear cK cN); (try k_sweep); (try dsimp only); (try k_fold)))))))) | ((k_here; (with_reducible show wpAny _ _ (call (Value.ref 821) _) _ _ _); k_dflt (((fail "fq"; refine' CtP.use (back_seg SS9 _ _ _ _ _ _ _) ?qzB ?qzF ?qzX ?qzN ?qzT ?qzK1 ?qzK ?qzp ?qzd ?qzu ?_); ((((case qzB => k_asm); (case qzF => k_asm); (case qzX => k_asm); (case qzN => k_asm); (case qzT => k_asm); (case qzK1 => first | exact rfl | assumption); (case qzK => first | exact rfl | assumption)))); (case qzp => exact ⟨SegP.use SS9 (by k_asm) (by fail "mine sub"), ssl⟩); (case qzd => ktr_room); (case qzu => ktr_units); ((((intro cv ch ctk cS F9 N9 cl cL cP; obtain ⟨fs, cf, cK, cN⟩ := PF.come (by k_asm) (by k_asm) cP; clear cP cS cl cL; (replace AA := up3 AA cN (by fail "mine mem2") (by fail "mine mem2") (by fail "mine mem2")); (try (replace aD := AllNe.ins3 aD (cN (du, _) (by fail "mine mem2")))); (try (replace aT := AllNe.ins4 aT (cN (td, _) (by fail "mine mem2")))); (first | (replace N9 := ins8 cK N9) | (replace N9 := ins7 cK N9) | (replace N9 := ins6 cK N9) | (replace N9 := ins5 cK N9) | (replace N9 := ins4 cK N9) | (replace N9 := ins3 cK N9)); clear cK cN); (try k_sweep); (try dsimp only); (try k_fold)))))))) | ((k_here; (with_reducible show wpAny _ _ (call (Value.ref 816) _) _ _ _); k_dflt (((fail "fq"; refine' CtP.use (ahead_seg SS9 _ _ _ _ _ _ _) ?qzB ?qzF ?qzX ?qzN ?qzT ?qzK1 ?qzK ?qzp ?qzd ?qzu ?_); ((((case qzB => k_asm); (case qzF => k_asm); (case qzX => k_asm); (case qzN => k_asm); (case qzT => k_asm); (case qzK1 => first | exact rfl | assumption); (case qzK => first | exact rfl | assumption)))); (case qzp => exact ⟨SegP.use SS9 (by k_asm) (by fail "mine sub"), ssl⟩); (case qzd => ktr_room); (case qzu => ktr_units); ((((intro cv ch ctk cS F9 N9 cl cL cP; obtain ⟨fs, cf, cK, cN⟩ := PF.come (by k_asm) (by k_asm) cP; clear cP cS cl cL; (replace AA := up3 AA cN (by fail "mine mem2") (by fail "mine mem2") (by fail "mine mem2")); (try (replace aD := AllNe.ins3 aD (cN (du, _) (by fail "mine mem2")))); (try (replace aT := AllNe.ins4 aT (cN (td, _) (by fail "mine mem2")))); (first | (replace N9 := ins8 cK N9) | (replace N9 := ins7 cK N9) | (replace N9 := ins6 cK N9) | (replace N9 := ins5 cK N9) | (replace N9 := ins4 cK N9) | (replace N9 := ins3 cK N9)); clear cK cN); (try k_sweep); (try dsimp only); (try k_fold)))))))) | ((k_here; (with_reducible show wpAny _ _ (call (Value.ref 806) _) _ _ _); k_dflt (((fail "fq"; refine' CtM.useR (draw_seg SD _ dk _ _ _ _ _ (KB.ok kbT ?qzs2) ?qzs3) ?qzB ?qzF ?qzX ?qzN ?qzT ?qzK1 ?qzK (Rems.cons (Rem.head (AllNe.all A0)) Rems.nil) ?qzp ?qzd ?qzu ?_); (case qzB => (k_asm)); (case qzF => (k_asm)); (case qzX => (k_asm)); (case qzN => (first | k_asm | exact drop1 (by k_asm))); (case qzT => (k_asm)); (case qzK1 => (first | exact rfl | assumption)); (case qzK => (first | exact rfl | assumption)); (case qzs2 => decide); (case qzs3 => first | exact ⟨by decide, by decide⟩ | exact many_ok' b8 (by decide) (by decide)); (case qzp => (intro g2 G2 S2; have z9 := SegP.onG SD (by k_asm) (by first | fail "mine sub" | fail) A1 G2; exact ⟨z9, len40⟩)); (case qzd => (ktr_room)); (case qzu => (ktr_units)); (intro cv ch ctk cG F9 N9 cO cP; obtain ⟨r9, t9, tk9, n9, cV, r91, r92, cD⟩ := cP; replace N9 := news_put N9 cD (cO _ (List.Mem.head _)); replace kbT := KB.succ kbT; clear cG cO cD; subst cV; (try k_sweep); (try dsimp only); (try k_fold)))))) | ((k_here; (with_reducible show wpAny _ _ (call (Value.ref 811) _) _ _ _); k_dflt (((fail "fq"; refine' CtP.use (stands_c _ _ _ _ _ _ (str_len b8) (str_len b7)) ?qzB ?qzF ?qzX ?qzN ?qzT ?qzK1 ?qzK trivial ?qzd ?qzu ?_); (case qzB => k_asm); (case qzF => k_asm); (case qzX => k_asm); (case qzN => k_asm); (case qzT => k_asm); (case qzK1 => first | exact rfl | assumption); (case qzK => first | exact rfl | assumption); (case qzd => ktr_room); (case qzu => ktr_units); (intro cv ch ctk cS F9 N9 cl cL cP; obtain ⟨lS, wsS, nS, cV, cQ, hiS, cR⟩ := cP; obtain ⟨NS, dS⟩ := fresh_onto (by k_asm) (by k_asm) N9 cQ cR; clear cl cL cS cQ cR N9; subst cV; (try k_sweep); (try dsimp only); (try k_fold)))))) | ((k_here; (with_reducible show wpAny _ _ (call (Value.ref 806) _) _ _ _); k_dflt (((fail "fq"; refine' CtM.useR (draw_c _ _ _ _ _ _ _ _ _ (KB.ok ?qzs1 ?qzs2) ⟨?qzs3, ?qzs4⟩) ?qzB ?qzF ?qzX ?qzN ?qzT ?qzK1 ?qzK ?qzR ?qzp ?qzd ?qzu ?_); (case qzB => (k_asm)); (case qzF => (k_asm)); (case qzX => (k_asm)); (case qzN => (k_asm)); (case qzT => (k_asm)); (case qzK1 => (first | exact rfl | assumption)); (case qzK => (first | exact rfl | assumption)); (case qzR => (fail "mine rems")); (case qzs1 => (fail "mine kb")); (case qzs2 => decide); (case qzs3 => first | decide | omega); (case qzs4 => first | decide | omega); (case qzp => (intro g2 G2 S2; exact ⟨⟨_, ⟨_, G2 _ _ (News.get (by k_asm) (by k_mem)) (by simp; k_ne), rfl, _, rfl⟩, by assumption⟩, len40⟩)); (case qzd => (ktr_room)); (case qzu => (ktr_units)); (intro cv ch ctk cG F9 N9 cO cP; obtain ⟨r9, t9, tk9, n9, cV, r91, r92, cD⟩ := cP; replace N9 := news_put N9 cD (cO _ (List.Mem.head _)); clear cG cO cD; subst cV; (try k_sweep); (try dsimp only); (try k_fold)); )))) | fail) | ((with_reducible show wpAny _ _ (pyIter (Value.ref _)) _ _ _); k_dflt ((((rename News _ _ _ _ => N6); refine' range_T (σ := LS) 4 [Str.ofString "place", Str.ofString "count", Str.ofString "high", Str.ofString "low", Str.ofString "due", Str.ofString "told_own", Str.ofString "found"] (fun st => (dk, W.listOf #[.ref dc, .int st.k st.tk] st.n) :: (PT, tabObj st.ps) :: st.tl) (fun i st => KB st.k (18 + 4 * (i : Int)) ∧ LoopI dk PT _ _ _ dc _ _ _ _ _ _ (Str.ofString "law.<locals>.<lambda>") st.ps st.tl) ⟨_, _, _, _, _⟩ rfl (by assumption) (by decide) rfl (by assumption) N6 ⟨kbL, LI⟩ (fun i9 t9 u9 st9 h9 tk9 I9 oI9 hi9 hP9 off9 F9 N9 => ?_) (fun u9 st9 h9 tk9 hP9 F9 N9 => ?_); rotate_left; (subst hPT); rotate_right)))) | walk1 | (k_end; wrow_close) | (dsimp only; walk1) | (leave1; try dsimp only) | (dsimp only) | fail "no step"))
    (rename News _ _ _ _ => N7)
    (simp only [List.push_toArray, List.cons_append, List.nil_append] at N7)
    have VD := vd_of N7 (by assumption) (by assumption) (by assumption) (by assumption) (by fail "mine sub") (by fail "mine sub") (by fail "mine sub") (by fail "mine sub")
    have VT := vt_of N7 VD (by exact told1 (by assumption) (by assumption)) (by exact told2 (by assumption) (by assumption) (by assumption)) (by exact told3 (by assumption) (by assumption) (by assumption)) (by exact told4 (by assumption) (by assumption) (by assumption)) (by fail "mine sub") (by fail "mine sub") (by fail "mine sub") (by fail "mine sub")
    (repeat' ((fail_if_success (with_reducible show wpAny _ _ (exec (Stmt.Assign _ _ ⟨715, _, _, _⟩) _) _ _ _)); first | fail "unf" | ((with_reducible show GoodW _ _ _ _ _ _ _); first | ((k_dflt (refine' goodW_bool ?qzg1 ?qzg2 ?qzg3 ?qzg4 ?qzg5; (case qzg1 => k_asm); (case qzg2 => k_asm); (case qzg3 => (intro _; kernel_rfl!)); (case qzg4 => kernel_rfl!); (case qzg5 => first | rfl | kernel_rfl!); ))) | fail) | ((with_reducible show wpAny _ _ (eval (Expr.Name _ _) _) _ _ _); first | ((k_here; first | ((with_reducible show wpAny _ _ (eval (Expr.Name _ _) (compEnvC _ _ _ _)) _ _ _); k_dflt (first | (refine' kcf_cell ?qzN ?qzc ?qzm ?qzd ?_ ?qza ?qzb; (case qza => rfl); (case qzb => rfl); (case qzN => k_asm); (case qzc => rfl); (case qzm => fail "mine mem2"); (case qzd => k_asm); k_whole) | (refine' LCgL.ld_own ?qza ?qzb ?qzc ?qzd ?_; (case qza => k_asm); (case qzb => k_mem); (case qzc => assumption); (case qzd => assumption); k_whole) | (refine' LCgL.ld_global ?qza ?qzb ?qzc ?qzd ?_; (case qza => k_asm); (case qzb => k_asm); (case qzc => k_asm); (case qzd => k_is); k_whole) | (refine' LCgL.ld_built ?qza ?qzb ?qzc ?qzd ?qze ?qzf ?_; (case qza => k_asm); (case qzb => k_asm); (case qzc => k_asm); (case qzd => k_is); (case qze => boot_by_name); (case qzf => decide); k_whole))) | k_dflt (first | (refine' name_L ?qzF ?qzv ?qzo ?_; (case qzo => decide +kernel); (case qzF => k_asm); (case qzv => rfl); k_whole) | (refine' name_G ?qzF ?qzX ?qzT ?qze ?qzo ?_; (case qzo => decide +kernel); (case qzF => k_asm); (case qzX => k_asm); (case qzT => k_asm); (case qze => k_is); k_whole) | (refine' name_C ?qzN ?qzc ?qzm ?qzd ?qzo ?_; (case qzo => decide +kernel); (case qzN => k_asm); (case qzc => rfl); (case qzm => fail "mine mem2"); (case qzd => k_asm); k_whole) | (refine' name_I ?qzF ?qzX ?qzT ?qze ?qzv ?qzn ?qzo ?_; (case qzo => decide +kernel); (case qzF => k_asm); (case qzX => k_asm); (case qzT => k_asm); (case qze => k_is); (case qzv => boot_fast); (case qzn => decide); k_whole)))) | ((k_here; (with_reducible show wpAny _ _ (eval (Expr.Name _ _) (compEnvC _ _ _ _)) _ _ _); k_dflt (refine' kcf_cell ?qN ?qc ?qm ?qd ?_ ?qa ?qb; (case qa => rfl); (case qb => rfl); (case qN => k_asm); (case qc => rfl); (case qm => fail "mine mem2"); (case qd => k_asm); k_whole))) | ((k_here; k_dflt (refine' nameX_G ?qF ?qc ?qg ?qd ?_ ?qa ?qb; (case qa => rfl); (case qb => rfl); (case qF => k_asm); (case qc => rfl); (case qg => first | exact g6 | exact g5 | exact g4 | exact g3 | exact g2 | exact g1); (case qd => k_asm); k_whole))) | ((k_here; k_dflt (refine' nameX_C ?qN ?qc ?qm ?qd ?_ ?qa ?qb; (case qa => rfl); (case qb => rfl); (case qN => k_asm); (case qc => rfl); (case qm => fail "mine mem2"); (case qd => k_asm); k_whole))) | fail) | ((with_reducible show wpAny _ _ (callWith _ (Value.ref _) _ _ _) _ _ _); first | ((k_here; k_dflt (first | (refine' callWith_K ?qk1 ?qk2 ?_; (case qk1 => k_asm); (case qk2 => k_is); k_whole) | (refine' callWith_K0F ?qk0 ?qk1 ?qk2 ?_; (case qk0 => k_asm); (case qk1 => k_asm); (case qk2 => k_is); k_whole) | (refine' callWith_KW ?qk1 ?qk2 ?qk3 ?_; (case qk1 => k_asm); (case qk2 => k_is); (case qk3 => exact rfl); k_whole) | (refine' callWith_KW0 ?qk1 ?qk2 ?qk3 ?_; (case qk1 => k_asm); (case qk2 => k_is); (case qk3 => exact rfl); k_whole)))) | ((k_here; k_dflt (refine' callWith_K ?qk1 ?qk2 ?_; (case qk1 => k_asm); (case qk2 => k_is); k_whole))) | fail) | ((with_reducible show EndX _ _ _ _ _ _ _); first | ((k_dflt ((refine' jt_out ?qjF ?qjN AA n1 n2 ?qjm ⟨KB.four hkb, LoopI.up hLI ?qjs AA.1 AA.2.2 (TabSt.up TS ?qjt)⟩; (case qjF => k_asm); (case qjN => first | k_asm | exact drop1 (by k_asm) | exact drop1 (drop1 (by k_asm)) | exact drop1 (drop1 (drop1 (by k_asm))) | exact drop1 (drop1 (drop1 (drop1 (by k_asm)))) | exact drop1 (drop1 (drop1 (drop1 (drop1 (by k_asm)))))); (case qjm => ((intro z h1 h2; (try dsimp +zetaDelta only); (simp only [List.contains_cons, List.contains_nil, Bool.or_false, Bool.or_eq_false_iff, beq_eq_false_iff_ne, ne_eq] at h1 h2); (simp [h1, h2]; done)))); (case qjs => fail "mine sub"); (case qjt => fail "mine sub"))))) | fail) | ((with_reducible show wpAny _ _ (compareOp CmpOp.NotEq _ _) _ _ _); first | ((k_here; k_dflt ((refine ne_find (FindIn.at (reS (by assumption) (by assumption)) (by k_asm) (by fail "mine sub")) (FindIn.at (by assumption) (by k_asm) (by fail "mine sub")) (by ktr_units) ?_)))) | fail) | ((with_reducible show wpAny _ _ (compareOp CmpOp.NotEq (Value.ref _) (Value.ref _)) _ _ _); first | ((k_here; (with_reducible show wpAny _ _ (compareOp CmpOp.NotEq (Value.ref _) (Value.ref _)) _ _ _); k_dflt ((refine ne_finds (by k_asm) (by fail "mine mem2") (by fail "mine mem2") rfl rfl rfl rfl VT hf9 (by fail "mine sub") (by fail "mine sub") (by ktr_units) ?_)))) | fail) | ((with_reducible show LCg.CompSrc _ _ _ _ _ _ _ _ _ _ _ _ _ _); first | ((k_here; k_dflt (((rename News _ _ _ _ => lN'); (refine LCg.CompSrc.ledger (by rfl) (by k_asm) lN' (by fail "mine mem2") (Nat.le_of_ble_eq_true rfl) ?_; intro g'; refine comp_moved' VT VD (fun i9 o9 v9 ys9 fs9 I' oI' C' oC' D' m' h' tk' E' ho9 hv9 hI9 hC' hx' F' N' off9 ne' => ?_) (fun ys9 fs9 hf9 => ?_)))); (all_goals (try k_fold)))) | fail) | ((with_reducible show wpAny _ _ (eval (Expr.Lambda _ _ _ _) _) _ _ _); first | ((k_here; k_dflt (((refine' kla_eval ?qd0 ?_; (case qd0 => exact rfl)); (refine' lam_come ?qF ?qN ?qT ?qC ?qcd (rem5 nT nD hdk9 n1 AA.2.2) TS ?qhq ?qcl ?_; (case qF => k_asm); (case qN => k_asm); (case qT => k_asm); (case qcd => exact rfl); (case qC => (rw [hPT]; kn_code)); (case qhq => first | exact rfl | decide +kernel); (case qcl => exact rfl)); (intro f9 c9 ctv9 pt9 ls h' tk' F9 N9 cK cP cN mf SR TS9; replace AA := up3L AA cN cP (by fail "mine mem2") (by fail "mine mem2"); replace aT := aT_up (o' := tabObj pt9) aT cN (by fail "mine mem2"); replace N9 := ins5 cK (rot5 N9); clear cK cP cN; replace TS := TS9); (try k_sweep); (try dsimp only); (try k_fold))))) | fail) | ((with_reducible show wpAny _ _ (call (Value.builtin "list.append") _) _ _ _); first | ((k_here; (with_reducible show wpAny _ _ (call (Value.builtin _) [Value.ref _, _]) _ _ _); k_dflt (((refine' append_K ?qk1 ?qk2 ?qk3 ?_ ?qz; (case qk1 => k_asm); (case qk2 => k_asm); (case qk3 => first | exact Upd.head (AllNe.all aT) | exact Upd.head (AllNe.all aD)); (case qz => exact Nat.le_of_ble_eq_true rfl); k_whole); intro h' F' N'; (try k_sweep))))) | fail) | ((with_reducible show wpAny _ _ (call (Value.builtin "len") _) _ _ _); first | ((k_here; (with_reducible show wpAny _ _ (call (Value.builtin "len") [Value.str _ _]) _ _ _); k_dflt (first | refine len_text b8 (by decide) ?_ | refine len_text b7 (by decide) ?_))) | fail) | ((with_reducible show wpAny _ _ (call (Value.type _) [Value.ref _]) _ _ _); first | ((k_here; (with_reducible show wpAny _ _ (call (Value.type _) [Value.ref _]) _ _ _); k_dflt (refine' list_ofLst ?qF ?qN ?qb ?qi ?ql ?qz ?_; (case qF => k_asm); (case qN => k_asm); (case qb => k_mem); (case qi => assumption); (case ql => assumption); (case qz => decide)); intro D' c' h' F' N' l1; (try k_lt l1); (try k_sweep))) | fail) | ((with_reducible show LCg.CompEnd _ _ _ _ _ _ _ _ _ _ _ _ _ _); first | ((k_here; k_dflt (refine keep_end (by k_asm) N' off' trivial (OrdR.step hi' hc' (by rfl))))) | fail) | ((with_reducible show TxtSrc _ _ _ _ _ _ _ _ _ _ _ _ _ _); first | ((k_here; k_dflt (((rename News _ _ _ _ => lN'); (refine ⟨_, _, _, rfl, rfl, by k_asm, lN', by exact txt_size (by assumption) (by decide), fun g' => comp_ords (fun i' c' ys' u' I' oI' C' oC' D' m' h' tk' E' hc' hm' hi' hC' hx' F' N' off' ne' => ?_) (fun ys' hy' => ?_)⟩))))) | fail) | ((with_reducible show wpAny _ _ (call (Value.builtin "str.join") _) _ _ _); first | ((k_here; first | (k_dflt (refine' join_drawn ?qk1 hR7 ?qk2 ?_; (case qk1 => exact News.isList (by k_asm) (by k_mem)); (case qk2 => exact len_r (by assumption) (by assumption) (by decide))); intro _ _) | (k_dflt (refine' join_drawn ?qk1 hR8 ?qk2 ?_; (case qk1 => exact News.isList (by k_asm) (by k_mem)); (case qk2 => exact len_r (by assumption) (by assumption) (by decide))); intro _ _) | fail)) | fail) | ((with_reducible show wpAny _ _ (call (Value.ref _) _) _ _ _); first | ((k_here; (first | (with_reducible show wpAny _ _ (call (Value.ref 795) _) _ _ _) | (with_reducible show wpAny _ _ (call (Value.ref 626) _) _ _ _)); k_dflt (refine' call_cls ?qk1 ?qk2 ?qk3 ?qk4 ?qk5 ?qk6 ?_; (case qk1 => k_asm); (case qk2 => k_asm); (case qk3 => k_asm); (case qk4 => k_is); (case qk5 => k_is); (case qk6 => k_is); k_whole; intro x' d' h' F' N' l1 l2; (try k_lt l1); (try k_lt2 l2); (try k_sweep); k_enter; ))) | ((k_here; (with_reducible show wpAny _ _ (call (Value.ref 672) _) _ _ _); k_dflt (((fail "fq"; refine' CtP.use (match_seg hR7 hiQ hy' b7 b8 ?qzs1 ?qzs2 _ _ _ _ _) ?qzB ?qzF ?qzX ?qzN ?qzT ?qzK1 ?qzK ?qzp ?qzd ?qzu ?_); ((((case qzB => k_asm); (case qzF => k_asm); (case qzX => k_asm); (case qzN => k_asm); (case qzT => k_asm); (case qzK1 => first | exact rfl | assumption); (case qzK => first | exact rfl | assumption)))); (case qzs1 => assumption); (case qzs2 => assumption); (case qzp => exact ⟨ints_at (by k_asm) (by fail "mine mem2") hiQ, ints_at (by k_asm) (by fail "mine mem2") hy'⟩); (case qzd => ktr_room); (case qzu => ktr_units); ((((intro cv ch ctk cS F9 N9 cl cL cP; obtain ⟨fs, cf, cK, cN⟩ := PF.come (by k_asm) (by k_asm) cP; clear cP cS cl cL; (replace AA := up3 AA cN (by fail "mine mem2") (by fail "mine mem2") (by fail "mine mem2")); (try (replace aD := AllNe.ins3 aD (cN (du, _) (by fail "mine mem2")))); (try (replace aT := AllNe.ins4 aT (cN (td, _) (by fail "mine mem2")))); (first | (replace N9 := ins8 cK N9) | (replace N9 := ins7 cK N9) | (replace N9 := ins6 cK N9) | (replace N9 := ins5 cK N9) | (replace N9 := ins4 cK N9) | (replace N9 := ins3 cK N9)); clear cK cN); (try k_sweep); (try dsimp only); (try k_fold)))))))) | ((k_here; (with_reducible show wpAny _ _ (call (Value.ref 679) _) _ _ _); k_dflt (((fail "fq"; refine' CtP.use (quote_seg SI hR7 b7 _) ?qzB ?qzF ?qzX ?qzN ?qzT ?qzK1 ?qzK ?qzp ?qzd ?qzu ?_); ((((case qzB => k_asm); (case qzF => k_asm); (case qzX => k_asm); (case qzN => k_asm); (case qzT => k_asm); (case qzK1 => first | exact rfl | assumption); (case qzK => first | exact rfl | assumption)))); (case qzp => exact SegP.use SI (by k_asm) (by fail "mine sub")); (case qzd => ktr_room); (case qzu => ktr_units); (intro cv ch ctk cS F9 N9 cl cL cP; obtain ⟨lQ, wsQ, nQ, cV, cQ, hiQ, cR⟩ := cP; obtain ⟨NS, dQ⟩ := fresh_onto (by k_asm) (by k_asm) N9 cQ cR; clear cl cL cS cQ cR N9; subst cV; (try k_sweep); (try dsimp only); (try k_fold)))))) | ((k_here; (with_reducible show wpAny _ _ (call (Value.ref 833) _) _ _ _); k_dflt (((fail "fq"; refine' CtP.use (law_moved_c _ _ o9 _ _) ?qzB ?qzF ?qzX ?qzN ?qzT ?qzK1 ?qzK ?qzp ?qzd ?qzu ?_); ((((case qzB => k_asm); (case qzF => k_asm); (case qzX => k_asm); (case qzN => k_asm); (case qzT => k_asm); (case qzK1 => first | exact rfl | assumption); (case qzK => first | exact rfl | assumption)))); (case qzp => exact FindIn.at hv9 (by k_asm) (by fail "mine sub")); (case qzd => ktr_room); (case qzu => ktr_units); (intro cv ch ctk cS F9 N9 cl cL cP; exact moved_end (by k_asm) F9 (by k_asm) N9 off9 cP ho9 hI9 (fun fs => src_at (by fail "mine mem2") fs)))))) | ((k_here; (with_reducible show wpAny _ _ (call (Value.ref 651) _) _ _ _); k_dflt (((fail "fq"; refine' CtP.use (searchB_seg SV SI _ _ _ _ _ _) ?qzB ?qzF ?qzX ?qzN ?qzT ?qzK1 ?qzK ?qzp ?qzd ?qzu ?_); ((((case qzB => k_asm); (case qzF => k_asm); (case qzX => k_asm); (case qzN => k_asm); (case qzT => k_asm); (case qzK1 => first | exact rfl | assumption); (case qzK => first | exact rfl | assumption)))); (case qzp => exact pre_lam hp (Fr.keep (by k_asm)) SV SI psl (by exact strongP h91 h92 b8 (by assumption) (by assumption)) (by exact strongB (by assumption) (by assumption))); (case qzd => ktr_room); (case qzu => ktr_units); (intro cv ch ctk cS F9 N9 cl cL cP; exact hret _ _ _ (Fr.keep F9) (PF.back (Fr.keep (by k_asm)) cP)))))) | ((k_here; (with_reducible show wpAny _ _ (call (Value.ref 644) _) _ _ _); k_dflt (((fail "fq"; refine' CtP.use (searchF_seg SV SI _ _ _ _ _ _) ?qzB ?qzF ?qzX ?qzN ?qzT ?qzK1 ?qzK ?qzp ?qzd ?qzu ?_); ((((case qzB => k_asm); (case qzF => k_asm); (case qzX => k_asm); (case qzN => k_asm); (case qzT => k_asm); (case qzK1 => first | exact rfl | assumption); (case qzK => first | exact rfl | assumption)))); (case qzp => exact pre_lam hp (Fr.keep (by k_asm)) SV SI psl (by exact strongP h91 h92 b8 (by assumption) (by assumption)) (by exact strongN b8 (by assumption) (by assumption))); (case qzd => ktr_room); (case qzu => ktr_units); (intro cv ch ctk cS F9 N9 cl cL cP; exact hret _ _ _ (Fr.keep F9) (PF.back (Fr.keep (by k_asm)) cP)))))) | ((k_here; (with_reducible show wpAny _ _ (call (Value.ref 651) _) _ _ _); k_dflt (((fail "fq"; refine' CtP.use (searchB_seg SV SI _ _ _ _ _ _) ?qzB ?qzF ?qzX ?qzN ?qzT ?qzK1 ?qzK ?qzp ?qzd ?qzu ?_); ((((case qzB => k_asm); (case qzF => k_asm); (case qzX => k_asm); (case qzN => k_asm); (case qzT => k_asm); (case qzK1 => first | exact rfl | assumption); (case qzK => first | exact rfl | assumption)))); (case qzp => exact pre_search SV SI (by k_asm) (by fail "mine sub") psl (by exact rng_ok (by assumption) (by assumption) (by decide) b8 (by assumption) (by assumption)) (by exact rng_ok (by assumption) (by assumption) (by decide) b8 (by assumption) (by assumption))); (case qzd => ktr_room); (case qzu => ktr_units); ((((intro cv ch ctk cS F9 N9 cl cL cP; obtain ⟨fs, cf, cK, cN⟩ := PF.come (by k_asm) (by k_asm) cP; clear cP cS cl cL; (replace AA := up3 AA cN (by fail "mine mem2") (by fail "mine mem2") (by fail "mine mem2")); (try (replace aD := AllNe.ins3 aD (cN (du, _) (by fail "mine mem2")))); (try (replace aT := AllNe.ins4 aT (cN (td, _) (by fail "mine mem2")))); (first | (replace N9 := ins8 cK N9) | (replace N9 := ins7 cK N9) | (replace N9 := ins6 cK N9) | (replace N9 := ins5 cK N9) | (replace N9 := ins4 cK N9) | (replace N9 := ins3 cK N9)); clear cK cN); (try k_sweep); (try dsimp only); (try k_fold)))))))) | ((k_here; (with_reducible show wpAny _ _ (call (Value.ref 644) _) _ _ _); k_dflt (((fail "fq"; refine' CtP.use (searchF_seg SV SI _ _ _ _ _ _) ?qzB ?qzF ?qzX ?qzN ?qzT ?qzK1 ?qzK ?qzp ?qzd ?qzu ?_); ((((case qzB => k_asm); (case qzF => k_asm); (case qzX => k_asm); (case qzN => k_asm); (case qzT => k_asm); (case qzK1 => first | exact rfl | assumption); (case qzK => first | exact rfl | assumption)))); (case qzp => exact pre_search SV SI (by k_asm) (by fail "mine sub") psl (by exact rng_ok (by assumption) (by assumption) (by decide) b8 (by assumption) (by assumption)) (by exact rng_ok (by assumption) (by assumption) (by decide) b8 (by assumption) (by assumption))); (case qzd => ktr_room); (case qzu => ktr_units); ((((intro cv ch ctk cS F9 N9 cl cL cP; obtain ⟨fs, cf, cK, cN⟩ := PF.come (by k_asm) (by k_asm) cP; clear cP cS cl cL; (replace AA := up3 AA cN (by fail "mine mem2") (by fail "mine mem2") (by fail "mine mem2")); (try (replace aD := AllNe.ins3 aD (cN (du, _) (by fail "mine mem2")))); (try (replace aT := AllNe.ins4 aT (cN (td, _) (by fail "mine mem2")))); (first | (replace N9 := ins8 cK N9) | (replace N9 := ins7 cK N9) | (replace N9 := ins6 cK N9) | (replace N9 := ins5 cK N9) | (replace N9 := ins4 cK N9) | (replace N9 := ins3 cK N9)); clear cK cN); (try k_sweep); (try dsimp only); (try k_fold)))))))) | ((k_here; (with_reducible show wpAny _ _ (call (Value.ref 828) _) _ _ _); k_dflt (((fail "fq"; refine' CtP.use (often_seg SS9 _ _ _ _ _ _ _ _ _ ?qzs1) ?qzB ?qzF ?qzX ?qzN ?qzT ?qzK1 ?qzK ?qzp ?qzd ?qzu ?_); ((((case qzB => k_asm); (case qzF => k_asm); (case qzX => k_asm); (case qzN => k_asm); (case qzT => k_asm); (case qzK1 => first | exact rfl | assumption); (case qzK => first | exact rfl | assumption)))); (case qzs1 => first | exact cnt_ok (by assumption) (by assumption) | exact cnt_ok' (by assumption) (by assumption)); (case qzp => exact ⟨SegP.use SS9 (by k_asm) (by fail "mine sub"), ssl⟩); (case qzd => ktr_room); (case qzu => ktr_units); ((((intro cv ch ctk cS F9 N9 cl cL cP; obtain ⟨fs, cf, cK, cN⟩ := PF.come (by k_asm) (by k_asm) cP; clear cP cS cl cL; (replace AA := up3 AA cN (by fail "mine mem2") (by fail "mine mem2") (by fail "mine mem2")); (try (replace aD := AllNe.ins3 aD (cN (du, _) (by fail "mine mem2")))); (try (replace aT := AllNe.ins4 aT (cN (td, _) (by fail "mine mem2")))); (first | (replace N9 := ins8 cK N9) | (replace N9 := ins7 cK N9) | (replace N9 := ins6 cK N9) | (replace N9 := ins5 cK N9) | (replace N9 := ins4 cK N9) | (replace N9 := ins3 cK N9)); clear cK cN); (try k_sweep); (try dsimp only); (try k_fold)))))))) | ((k_here; (with_reducible show wpAny _ _ (call (Value.ref 821) _) _ _ _); k_dflt (((fail "fq"; refine' CtP.use (back_seg SS9 _ _ _ _ _ _ _) ?qzB ?qzF ?qzX ?qzN ?qzT ?qzK1 ?qzK ?qzp ?qzd ?qzu ?_); ((((case qzB => k_asm); (case qzF => k_asm); (case qzX => k_asm); (case qzN => k_asm); (case qzT => k_asm); (case qzK1 => first | exact rfl | assumption); (case qzK => first | exact rfl | assumption)))); (case qzp => exact ⟨SegP.use SS9 (by k_asm) (by fail "mine sub"), ssl⟩); (case qzd => ktr_room); (case qzu => ktr_units); ((((intro cv ch ctk cS F9 N9 cl cL cP; obtain ⟨fs, cf, cK, cN⟩ := PF.come (by k_asm) (by k_asm) cP; clear cP cS cl cL; (replace AA := up3 AA cN (by fail "mine mem2") (by fail "mine mem2") (by fail "mine mem2")); (try (replace aD := AllNe.ins3 aD (cN (du, _) (by fail "mine mem2")))); (try (replace aT := AllNe.ins4 aT (cN (td, _) (by fail "mine mem2")))); (first | (replace N9 := ins8 cK N9) | (replace N9 := ins7 cK N9) | (replace N9 := ins6 cK N9) | (replace N9 := ins5 cK N9) | (replace N9 := ins4 cK N9) | (replace N9 := ins3 cK N9)); clear cK cN); (try k_sweep); (try dsimp only); (try k_fold)))))))) | ((k_here; (with_reducible show wpAny _ _ (call (Value.ref 816) _) _ _ _); k_dflt (((fail "fq"; refine' CtP.use (ahead_seg SS9 _ _ _ _ _ _ _) ?qzB ?qzF ?qzX ?qzN ?qzT ?qzK1 ?qzK ?qzp ?qzd ?qzu ?_); ((((case qzB => k_asm); (case qzF => k_asm); (case qzX => k_asm); (case qzN => k_asm); (case qzT => k_asm); (case qzK1 => first | exact rfl | assumption); (case qzK => first | exact rfl | assumption)))); (case qzp => exact ⟨SegP.use SS9 (by k_asm) (by fail "mine sub"), ssl⟩); (case qzd => ktr_room); (case qzu => ktr_units); ((((intro cv ch ctk cS F9 N9 cl cL cP; obtain ⟨fs, cf, cK, cN⟩ := PF.come (by k_asm) (by k_asm) cP; clear cP cS cl cL; (replace AA := up3 AA cN (by fail "mine mem2") (by fail "mine mem2") (by fail "mine mem2")); (try (replace aD := AllNe.ins3 aD (cN (du, _) (by fail "mine mem2")))); (try (replace aT := AllNe.ins4 aT (cN (td, _) (by fail "mine mem2")))); (first | (replace N9 := ins8 cK N9) | (replace N9 := ins7 cK N9) | (replace N9 := ins6 cK N9) | (replace N9 := ins5 cK N9) | (replace N9 := ins4 cK N9) | (replace N9 := ins3 cK N9)); clear cK cN); (try k_sweep); (try dsimp only); (try k_fold)))))))) | ((k_here; (with_reducible show wpAny _ _ (call (Value.ref 806) _) _ _ _); k_dflt (((fail "fq"; refine' CtM.useR (draw_seg SD _ dk _ _ _ _ _ (KB.ok kbT ?qzs2) ?qzs3) ?qzB ?qzF ?qzX ?qzN ?qzT ?qzK1 ?qzK (Rems.cons (Rem.head (AllNe.all A0)) Rems.nil) ?qzp ?qzd ?qzu ?_); (case qzB => (k_asm)); (case qzF => (k_asm)); (case qzX => (k_asm)); (case qzN => (first | k_asm | exact drop1 (by k_asm))); (case qzT => (k_asm)); (case qzK1 => (first | exact rfl | assumption)); (case qzK => (first | exact rfl | assumption)); (case qzs2 => decide); (case qzs3 => first | exact ⟨by decide, by decide⟩ | exact many_ok' b8 (by decide) (by decide)); (case qzp => (intro g2 G2 S2; have z9 := SegP.onG SD (by k_asm) (by first | fail "mine sub" | fail) A1 G2; exact ⟨z9, len40⟩)); (case qzd => (ktr_room)); (case qzu => (ktr_units)); (intro cv ch ctk cG F9 N9 cO cP; obtain ⟨r9, t9, tk9, n9, cV, r91, r92, cD⟩ := cP; replace N9 := news_put N9 cD (cO _ (List.Mem.head _)); replace kbT := KB.succ kbT; clear cG cO cD; subst cV; (try k_sweep); (try dsimp only); (try k_fold)))))) | ((k_here; (with_reducible show wpAny _ _ (call (Value.ref 811) _) _ _ _); k_dflt (((fail "fq"; refine' CtP.use (stands_c _ _ _ _ _ _ (str_len b8) (str_len b7)) ?qzB ?qzF ?qzX ?qzN ?qzT ?qzK1 ?qzK trivial ?qzd ?qzu ?_); (case qzB => k_asm); (case qzF => k_asm); (case qzX => k_asm); (case qzN => k_asm); (case qzT => k_asm); (case qzK1 => first | exact rfl | assumption); (case qzK => first | exact rfl | assumption); (case qzd => ktr_room); (case qzu => ktr_units); (intro cv ch ctk cS F9 N9 cl cL cP; obtain ⟨lS, wsS, nS, cV, cQ, hiS, cR⟩ := cP; obtain ⟨NS, dS⟩ := fresh_onto (by k_asm) (by k_asm) N9 cQ cR; clear cl cL cS cQ cR N9; subst cV; (try k_sweep); (try dsimp only); (try k_fold)))))) | ((k_here; (with_reducible show wpAny _ _ (call (Value.ref 806) _) _ _ _); k_dflt (((fail "fq"; refine' CtM.useR (draw_c _ _ _ _ _ _ _ _ _ (KB.ok ?qzs1 ?qzs2) ⟨?qzs3, ?qzs4⟩) ?qzB ?qzF ?qzX ?qzN ?qzT ?qzK1 ?qzK ?qzR ?qzp ?qzd ?qzu ?_); (case qzB => (k_asm)); (case qzF => (k_asm)); (case qzX => (k_asm)); (case qzN => (k_asm)); (case qzT => (k_asm)); (case qzK1 => (first | exact rfl | assumption)); (case qzK => (first | exact rfl | assumption)); (case qzR => (fail "mine rems")); (case qzs1 => (fail "mine kb")); (case qzs2 => decide); (case qzs3 => first | decide | omega); (case qzs4 => first | decide | omega); (case qzp => (intro g2 G2 S2; exact ⟨⟨_, ⟨_, G2 _ _ (News.get (by k_asm) (by k_mem)) (by simp; k_ne), rfl, _, rfl⟩, by assumption⟩, len40⟩)); (case qzd => (ktr_room)); (case qzu => (ktr_units)); (intro cv ch ctk cG F9 N9 cO cP; obtain ⟨r9, t9, tk9, n9, cV, r91, r92, cD⟩ := cP; replace N9 := news_put N9 cD (cO _ (List.Mem.head _)); clear cG cO cD; subst cV; (try k_sweep); (try dsimp only); (try k_fold)); )))) | fail) | ((with_reducible show wpAny _ _ (pyIter (Value.ref _)) _ _ _); k_dflt ((((rename News _ _ _ _ => N6); refine' range_T (σ := LS) 4 [Str.ofString "place", Str.ofString "count", Str.ofString "high", Str.ofString "low", Str.ofString "due", Str.ofString "told_own", Str.ofString "found"] (fun st => (dk, W.listOf #[.ref dc, .int st.k st.tk] st.n) :: (PT, tabObj st.ps) :: st.tl) (fun i st => KB st.k (18 + 4 * (i : Int)) ∧ LoopI dk PT _ _ _ dc _ _ _ _ _ _ (Str.ofString "law.<locals>.<lambda>") st.ps st.tl) ⟨_, _, _, _, _⟩ rfl (by assumption) (by decide) rfl (by assumption) N6 ⟨kbL, LI⟩ (fun i9 t9 u9 st9 h9 tk9 I9 oI9 hi9 hP9 off9 F9 N9 => ?_) (fun u9 st9 h9 tk9 hP9 F9 N9 => ?_); rotate_left; (subst hPT); rotate_right)))) | walk1 | (k_end; wrow_close) | (dsimp only; walk1) | (leave1; try dsimp only) | (dsimp only) | fail "no step"))
    (rename News _ _ _ _ => N7)
    have N8 := after_cmp N7
    clear N7 aD aT
    (repeat' (first | fail "unf" | ((with_reducible show GoodW _ _ _ _ _ _ _); first | ((k_dflt (refine' goodW_bool ?qzg1 ?qzg2 ?qzg3 ?qzg4 ?qzg5; (case qzg1 => k_asm); (case qzg2 => k_asm); (case qzg3 => (intro _; kernel_rfl!)); (case qzg4 => kernel_rfl!); (case qzg5 => first | rfl | kernel_rfl!); ))) | fail) | ((with_reducible show wpAny _ _ (eval (Expr.Name _ _) _) _ _ _); first | ((k_here; first | ((with_reducible show wpAny _ _ (eval (Expr.Name _ _) (compEnvC _ _ _ _)) _ _ _); k_dflt (first | (refine' kcf_cell ?qzN ?qzc ?qzm ?qzd ?_ ?qza ?qzb; (case qza => rfl); (case qzb => rfl); (case qzN => k_asm); (case qzc => rfl); (case qzm => fail "mine mem2"); (case qzd => k_asm); k_whole) | (refine' LCgL.ld_own ?qza ?qzb ?qzc ?qzd ?_; (case qza => k_asm); (case qzb => k_mem); (case qzc => assumption); (case qzd => assumption); k_whole) | (refine' LCgL.ld_global ?qza ?qzb ?qzc ?qzd ?_; (case qza => k_asm); (case qzb => k_asm); (case qzc => k_asm); (case qzd => k_is); k_whole) | (refine' LCgL.ld_built ?qza ?qzb ?qzc ?qzd ?qze ?qzf ?_; (case qza => k_asm); (case qzb => k_asm); (case qzc => k_asm); (case qzd => k_is); (case qze => boot_by_name); (case qzf => decide); k_whole))) | k_dflt (first | (refine' name_L ?qzF ?qzv ?qzo ?_; (case qzo => decide +kernel); (case qzF => k_asm); (case qzv => rfl); k_whole) | (refine' name_G ?qzF ?qzX ?qzT ?qze ?qzo ?_; (case qzo => decide +kernel); (case qzF => k_asm); (case qzX => k_asm); (case qzT => k_asm); (case qze => k_is); k_whole) | (refine' name_C ?qzN ?qzc ?qzm ?qzd ?qzo ?_; (case qzo => decide +kernel); (case qzN => k_asm); (case qzc => rfl); (case qzm => fail "mine mem2"); (case qzd => k_asm); k_whole) | (refine' name_I ?qzF ?qzX ?qzT ?qze ?qzv ?qzn ?qzo ?_; (case qzo => decide +kernel); (case qzF => k_asm); (case qzX => k_asm); (case qzT => k_asm); (case qze => k_is); (case qzv => boot_fast); (case qzn => decide); k_whole)))) | ((k_here; (with_reducible show wpAny _ _ (eval (Expr.Name _ _) (compEnvC _ _ _ _)) _ _ _); k_dflt (refine' kcf_cell ?qN ?qc ?qm ?qd ?_ ?qa ?qb; (case qa => rfl); (case qb => rfl); (case qN => k_asm); (case qc => rfl); (case qm => fail "mine mem2"); (case qd => k_asm); k_whole))) | ((k_here; k_dflt (refine' nameX_G ?qF ?qc ?qg ?qd ?_ ?qa ?qb; (case qa => rfl); (case qb => rfl); (case qF => k_asm); (case qc => rfl); (case qg => first | exact g6 | exact g5 | exact g4 | exact g3 | exact g2 | exact g1); (case qd => k_asm); k_whole))) | ((k_here; k_dflt (refine' nameX_C ?qN ?qc ?qm ?qd ?_ ?qa ?qb; (case qa => rfl); (case qb => rfl); (case qN => k_asm); (case qc => rfl); (case qm => fail "mine mem2"); (case qd => k_asm); k_whole))) | fail) | ((with_reducible show wpAny _ _ (callWith _ (Value.ref _) _ _ _) _ _ _); first | ((k_here; k_dflt (first | (refine' callWith_K ?qk1 ?qk2 ?_; (case qk1 => k_asm); (case qk2 => k_is); k_whole) | (refine' callWith_K0F ?qk0 ?qk1 ?qk2 ?_; (case qk0 => k_asm); (case qk1 => k_asm); (case qk2 => k_is); k_whole) | (refine' callWith_KW ?qk1 ?qk2 ?qk3 ?_; (case qk1 => k_asm); (case qk2 => k_is); (case qk3 => exact rfl); k_whole) | (refine' callWith_KW0 ?qk1 ?qk2 ?qk3 ?_; (case qk1 => k_asm); (case qk2 => k_is); (case qk3 => exact rfl); k_whole)))) | ((k_here; k_dflt (refine' callWith_K ?qk1 ?qk2 ?_; (case qk1 => k_asm); (case qk2 => k_is); k_whole))) | fail) | ((with_reducible show EndX _ _ _ _ _ _ _); first | ((k_dflt ((refine' jt_out ?qjF ?qjN AA n1 n2 ?qjm ⟨KB.four hkb, LoopI.up hLI ?qjs AA.1 AA.2.2 (TabSt.up TS ?qjt)⟩; (case qjF => k_asm); (case qjN => first | k_asm | exact drop1 (by k_asm) | exact drop1 (drop1 (by k_asm)) | exact drop1 (drop1 (drop1 (by k_asm))) | exact drop1 (drop1 (drop1 (drop1 (by k_asm)))) | exact drop1 (drop1 (drop1 (drop1 (drop1 (by k_asm)))))); (case qjm => ((intro z h1 h2; (try dsimp +zetaDelta only); (simp only [List.contains_cons, List.contains_nil, Bool.or_false, Bool.or_eq_false_iff, beq_eq_false_iff_ne, ne_eq] at h1 h2); (simp [h1, h2]; done)))); (case qjs => fail "mine sub"); (case qjt => fail "mine sub"))))) | fail) | ((with_reducible show wpAny _ _ (compareOp CmpOp.NotEq _ _) _ _ _); first | ((k_here; k_dflt ((refine ne_find (FindIn.at (reS (by assumption) (by assumption)) (by k_asm) (by fail "mine sub")) (FindIn.at (by assumption) (by k_asm) (by fail "mine sub")) (by ktr_units) ?_)))) | fail) | ((with_reducible show wpAny _ _ (compareOp CmpOp.NotEq (Value.ref _) (Value.ref _)) _ _ _); first | ((k_here; (with_reducible show wpAny _ _ (compareOp CmpOp.NotEq (Value.ref _) (Value.ref _)) _ _ _); k_dflt ((refine ne_finds (by k_asm) (by fail "mine mem2") (by fail "mine mem2") rfl rfl rfl rfl VT hf9 (by fail "mine sub") (by fail "mine sub") (by ktr_units) ?_)))) | fail) | ((with_reducible show LCg.CompSrc _ _ _ _ _ _ _ _ _ _ _ _ _ _); first | ((k_here; k_dflt (((rename News _ _ _ _ => lN'); (refine LCg.CompSrc.ledger (by rfl) (by k_asm) lN' (by fail "mine mem2") (Nat.le_of_ble_eq_true rfl) ?_; intro g'; refine comp_moved' VT VD (fun i9 o9 v9 ys9 fs9 I' oI' C' oC' D' m' h' tk' E' ho9 hv9 hI9 hC' hx' F' N' off9 ne' => ?_) (fun ys9 fs9 hf9 => ?_)))); (all_goals (try k_fold)))) | fail) | ((with_reducible show wpAny _ _ (eval (Expr.Lambda _ _ _ _) _) _ _ _); first | ((k_here; k_dflt (((refine' kla_eval ?qd0 ?_; (case qd0 => exact rfl)); (refine' lam_come ?qF ?qN ?qT ?qC ?qcd (rem5 nT nD hdk9 n1 AA.2.2) TS ?qhq ?qcl ?_; (case qF => k_asm); (case qN => k_asm); (case qT => k_asm); (case qcd => exact rfl); (case qC => (rw [hPT]; kn_code)); (case qhq => first | exact rfl | decide +kernel); (case qcl => exact rfl)); (intro f9 c9 ctv9 pt9 ls h' tk' F9 N9 cK cP cN mf SR TS9; replace AA := up3L AA cN cP (by fail "mine mem2") (by fail "mine mem2"); replace aT := aT_up (o' := tabObj pt9) aT cN (by fail "mine mem2"); replace N9 := ins5 cK (rot5 N9); clear cK cP cN; replace TS := TS9); (try k_sweep); (try dsimp only); (try k_fold))))) | fail) | ((with_reducible show wpAny _ _ (call (Value.builtin "list.append") _) _ _ _); first | ((k_here; (with_reducible show wpAny _ _ (call (Value.builtin _) [Value.ref _, _]) _ _ _); k_dflt (((refine' append_K ?qk1 ?qk2 ?qk3 ?_ ?qz; (case qk1 => k_asm); (case qk2 => k_asm); (case qk3 => first | exact Upd.head (AllNe.all aT) | exact Upd.head (AllNe.all aD)); (case qz => exact Nat.le_of_ble_eq_true rfl); k_whole); intro h' F' N'; (try k_sweep))))) | fail) | ((with_reducible show wpAny _ _ (call (Value.builtin "len") _) _ _ _); first | ((k_here; (with_reducible show wpAny _ _ (call (Value.builtin "len") [Value.str _ _]) _ _ _); k_dflt (first | refine len_text b8 (by decide) ?_ | refine len_text b7 (by decide) ?_))) | fail) | ((with_reducible show wpAny _ _ (call (Value.type _) [Value.ref _]) _ _ _); first | ((k_here; (with_reducible show wpAny _ _ (call (Value.type _) [Value.ref _]) _ _ _); k_dflt (refine' list_ofLst ?qF ?qN ?qb ?qi ?ql ?qz ?_; (case qF => k_asm); (case qN => k_asm); (case qb => k_mem); (case qi => assumption); (case ql => assumption); (case qz => decide)); intro D' c' h' F' N' l1; (try k_lt l1); (try k_sweep))) | fail) | ((with_reducible show LCg.CompEnd _ _ _ _ _ _ _ _ _ _ _ _ _ _); first | ((k_here; k_dflt (refine keep_end (by k_asm) N' off' trivial (OrdR.step hi' hc' (by rfl))))) | fail) | ((with_reducible show TxtSrc _ _ _ _ _ _ _ _ _ _ _ _ _ _); first | ((k_here; k_dflt (((rename News _ _ _ _ => lN'); (refine ⟨_, _, _, rfl, rfl, by k_asm, lN', by exact txt_size (by assumption) (by decide), fun g' => comp_ords (fun i' c' ys' u' I' oI' C' oC' D' m' h' tk' E' hc' hm' hi' hC' hx' F' N' off' ne' => ?_) (fun ys' hy' => ?_)⟩))))) | fail) | ((with_reducible show wpAny _ _ (call (Value.builtin "str.join") _) _ _ _); first | ((k_here; first | (k_dflt (refine' join_drawn ?qk1 hR7 ?qk2 ?_; (case qk1 => exact News.isList (by k_asm) (by k_mem)); (case qk2 => exact len_r (by assumption) (by assumption) (by decide))); intro _ _) | (k_dflt (refine' join_drawn ?qk1 hR8 ?qk2 ?_; (case qk1 => exact News.isList (by k_asm) (by k_mem)); (case qk2 => exact len_r (by assumption) (by assumption) (by decide))); intro _ _) | fail)) | fail) | ((with_reducible show wpAny _ _ (call (Value.ref _) _) _ _ _); first | ((k_here; (first | (with_reducible show wpAny _ _ (call (Value.ref 795) _) _ _ _) | (with_reducible show wpAny _ _ (call (Value.ref 626) _) _ _ _)); k_dflt (refine' call_cls ?qk1 ?qk2 ?qk3 ?qk4 ?qk5 ?qk6 ?_; (case qk1 => k_asm); (case qk2 => k_asm); (case qk3 => k_asm); (case qk4 => k_is); (case qk5 => k_is); (case qk6 => k_is); k_whole; intro x' d' h' F' N' l1 l2; (try k_lt l1); (try k_lt2 l2); (try k_sweep); k_enter; ))) | ((k_here; (with_reducible show wpAny _ _ (call (Value.ref 672) _) _ _ _); k_dflt (((fail "fq"; refine' CtP.use (match_seg hR7 hiQ hy' b7 b8 ?qzs1 ?qzs2 _ _ _ _ _) ?qzB ?qzF ?qzX ?qzN ?qzT ?qzK1 ?qzK ?qzp ?qzd ?qzu ?_); ((((case qzB => k_asm); (case qzF => k_asm); (case qzX => k_asm); (case qzN => k_asm); (case qzT => k_asm); (case qzK1 => first | exact rfl | assumption); (case qzK => first | exact rfl | assumption)))); (case qzs1 => assumption); (case qzs2 => assumption); (case qzp => exact ⟨ints_at (by k_asm) (by fail "mine mem2") hiQ, ints_at (by k_asm) (by fail "mine mem2") hy'⟩); (case qzd => ktr_room); (case qzu => ktr_units); ((((intro cv ch ctk cS F9 N9 cl cL cP; obtain ⟨fs, cf, cK, cN⟩ := PF.come (by k_asm) (by k_asm) cP; clear cP cS cl cL; (replace AA := up3 AA cN (by fail "mine mem2") (by fail "mine mem2") (by fail "mine mem2")); (try (replace aD := AllNe.ins3 aD (cN (du, _) (by fail "mine mem2")))); (try (replace aT := AllNe.ins4 aT (cN (td, _) (by fail "mine mem2")))); (first | (replace N9 := ins8 cK N9) | (replace N9 := ins7 cK N9) | (replace N9 := ins6 cK N9) | (replace N9 := ins5 cK N9) | (replace N9 := ins4 cK N9) | (replace N9 := ins3 cK N9)); clear cK cN); (try k_sweep); (try dsimp only); (try k_fold)))))))) | ((k_here; (with_reducible show wpAny _ _ (call (Value.ref 679) _) _ _ _); k_dflt (((fail "fq"; refine' CtP.use (quote_seg SI hR7 b7 _) ?qzB ?qzF ?qzX ?qzN ?qzT ?qzK1 ?qzK ?qzp ?qzd ?qzu ?_); ((((case qzB => k_asm); (case qzF => k_asm); (case qzX => k_asm); (case qzN => k_asm); (case qzT => k_asm); (case qzK1 => first | exact rfl | assumption); (case qzK => first | exact rfl | assumption)))); (case qzp => exact SegP.use SI (by k_asm) (by fail "mine sub")); (case qzd => ktr_room); (case qzu => ktr_units); (intro cv ch ctk cS F9 N9 cl cL cP; obtain ⟨lQ, wsQ, nQ, cV, cQ, hiQ, cR⟩ := cP; obtain ⟨NS, dQ⟩ := fresh_onto (by k_asm) (by k_asm) N9 cQ cR; clear cl cL cS cQ cR N9; subst cV; (try k_sweep); (try dsimp only); (try k_fold)))))) | ((k_here; (with_reducible show wpAny _ _ (call (Value.ref 833) _) _ _ _); k_dflt (((fail "fq"; refine' CtP.use (law_moved_c _ _ o9 _ _) ?qzB ?qzF ?qzX ?qzN ?qzT ?qzK1 ?qzK ?qzp ?qzd ?qzu ?_); ((((case qzB => k_asm); (case qzF => k_asm); (case qzX => k_asm); (case qzN => k_asm); (case qzT => k_asm); (case qzK1 => first | exact rfl | assumption); (case qzK => first | exact rfl | assumption)))); (case qzp => exact FindIn.at hv9 (by k_asm) (by fail "mine sub")); (case qzd => ktr_room); (case qzu => ktr_units); (intro cv ch ctk cS F9 N9 cl cL cP; exact moved_end (by k_asm) F9 (by k_asm) N9 off9 cP ho9 hI9 (fun fs => src_at (by fail "mine mem2") fs)))))) | ((k_here; (with_reducible show wpAny _ _ (call (Value.ref 651) _) _ _ _); k_dflt (((fail "fq"; refine' CtP.use (searchB_seg SV SI _ _ _ _ _ _) ?qzB ?qzF ?qzX ?qzN ?qzT ?qzK1 ?qzK ?qzp ?qzd ?qzu ?_); ((((case qzB => k_asm); (case qzF => k_asm); (case qzX => k_asm); (case qzN => k_asm); (case qzT => k_asm); (case qzK1 => first | exact rfl | assumption); (case qzK => first | exact rfl | assumption)))); (case qzp => exact pre_lam hp (Fr.keep (by k_asm)) SV SI psl (by exact strongP h91 h92 b8 (by assumption) (by assumption)) (by exact strongB (by assumption) (by assumption))); (case qzd => ktr_room); (case qzu => ktr_units); (intro cv ch ctk cS F9 N9 cl cL cP; exact hret _ _ _ (Fr.keep F9) (PF.back (Fr.keep (by k_asm)) cP)))))) | ((k_here; (with_reducible show wpAny _ _ (call (Value.ref 644) _) _ _ _); k_dflt (((fail "fq"; refine' CtP.use (searchF_seg SV SI _ _ _ _ _ _) ?qzB ?qzF ?qzX ?qzN ?qzT ?qzK1 ?qzK ?qzp ?qzd ?qzu ?_); ((((case qzB => k_asm); (case qzF => k_asm); (case qzX => k_asm); (case qzN => k_asm); (case qzT => k_asm); (case qzK1 => first | exact rfl | assumption); (case qzK => first | exact rfl | assumption)))); (case qzp => exact pre_lam hp (Fr.keep (by k_asm)) SV SI psl (by exact strongP h91 h92 b8 (by assumption) (by assumption)) (by exact strongN b8 (by assumption) (by assumption))); (case qzd => ktr_room); (case qzu => ktr_units); (intro cv ch ctk cS F9 N9 cl cL cP; exact hret _ _ _ (Fr.keep F9) (PF.back (Fr.keep (by k_asm)) cP)))))) | ((k_here; (with_reducible show wpAny _ _ (call (Value.ref 651) _) _ _ _); k_dflt (((fail "fq"; refine' CtP.use (searchB_seg SV SI _ _ _ _ _ _) ?qzB ?qzF ?qzX ?qzN ?qzT ?qzK1 ?qzK ?qzp ?qzd ?qzu ?_); ((((case qzB => k_asm); (case qzF => k_asm); (case qzX => k_asm); (case qzN => k_asm); (case qzT => k_asm); (case qzK1 => first | exact rfl | assumption); (case qzK => first | exact rfl | assumption)))); (case qzp => exact pre_search SV SI (by k_asm) (by fail "mine sub") psl (by exact rng_ok (by assumption) (by assumption) (by decide) b8 (by assumption) (by assumption)) (by exact rng_ok (by assumption) (by assumption) (by decide) b8 (by assumption) (by assumption))); (case qzd => ktr_room); (case qzu => ktr_units); ((((intro cv ch ctk cS F9 N9 cl cL cP; obtain ⟨fs, cf, cK, cN⟩ := PF.come (by k_asm) (by k_asm) cP; clear cP cS cl cL; (replace AA := up3 AA cN (by fail "mine mem2") (by fail "mine mem2") (by fail "mine mem2")); (try (replace aD := AllNe.ins3 aD (cN (du, _) (by fail "mine mem2")))); (try (replace aT := AllNe.ins4 aT (cN (td, _) (by fail "mine mem2")))); (first | (replace N9 := ins8 cK N9) | (replace N9 := ins7 cK N9) | (replace N9 := ins6 cK N9) | (replace N9 := ins5 cK N9) | (replace N9 := ins4 cK N9) | (replace N9 := ins3 cK N9)); clear cK cN); (try k_sweep); (try dsimp only); (try k_fold)))))))) | ((k_here; (with_reducible show wpAny _ _ (call (Value.ref 644) _) _ _ _); k_dflt (((fail "fq"; refine' CtP.use (searchF_seg SV SI _ _ _ _ _ _) ?qzB ?qzF ?qzX ?qzN ?qzT ?qzK1 ?qzK ?qzp ?qzd ?qzu ?_); ((((case qzB => k_asm); (case qzF => k_asm); (case qzX => k_asm); (case qzN => k_asm); (case qzT => k_asm); (case qzK1 => first | exact rfl | assumption); (case qzK => first | exact rfl | assumption)))); (case qzp => exact pre_search SV SI (by k_asm) (by fail "mine sub") psl (by exact rng_ok (by assumption) (by assumption) (by decide) b8 (by assumption) (by assumption)) (by exact rng_ok (by assumption) (by assumption) (by decide) b8 (by assumption) (by assumption))); (case qzd => ktr_room); (case qzu => ktr_units); ((((intro cv ch ctk cS F9 N9 cl cL cP; obtain ⟨fs, cf, cK, cN⟩ := PF.come (by k_asm) (by k_asm) cP; clear cP cS cl cL; (replace AA := up3 AA cN (by fail "mine mem2") (by fail "mine mem2") (by fail "mine mem2")); (try (replace aD := AllNe.ins3 aD (cN (du, _) (by fail "mine mem2")))); (try (replace aT := AllNe.ins4 aT (cN (td, _) (by fail "mine mem2")))); (first | (replace N9 := ins8 cK N9) | (replace N9 := ins7 cK N9) | (replace N9 := ins6 cK N9) | (replace N9 := ins5 cK N9) | (replace N9 := ins4 cK N9) | (replace N9 := ins3 cK N9)); clear cK cN); (try k_sweep); (try dsimp only); (try k_fold)))))))) | ((k_here; (with_reducible show wpAny _ _ (call (Value.ref 828) _) _ _ _); k_dflt (((fail "fq"; refine' CtP.use (often_seg SS9 _ _ _ _ _ _ _ _ _ ?qzs1) ?qzB ?qzF ?qzX ?qzN ?qzT ?qzK1 ?qzK ?qzp ?qzd ?qzu ?_); ((((case qzB => k_asm); (case qzF => k_asm); (case qzX => k_asm); (case qzN => k_asm); (case qzT => k_asm); (case qzK1 => first | exact rfl | assumption); (case qzK => first | exact rfl | assumption)))); (case qzs1 => first | exact cnt_ok (by assumption) (by assumption) | exact cnt_ok' (by assumption) (by assumption)); (case qzp => exact ⟨SegP.use SS9 (by k_asm) (by fail "mine sub"), ssl⟩); (case qzd => ktr_room); (case qzu => ktr_units); ((((intro cv ch ctk cS F9 N9 cl cL cP; obtain ⟨fs, cf, cK, cN⟩ := PF.come (by k_asm) (by k_asm) cP; clear cP cS cl cL; (replace AA := up3 AA cN (by fail "mine mem2") (by fail "mine mem2") (by fail "mine mem2")); (try (replace aD := AllNe.ins3 aD (cN (du, _) (by fail "mine mem2")))); (try (replace aT := AllNe.ins4 aT (cN (td, _) (by fail "mine mem2")))); (first | (replace N9 := ins8 cK N9) | (replace N9 := ins7 cK N9) | (replace N9 := ins6 cK N9) | (replace N9 := ins5 cK N9) | (replace N9 := ins4 cK N9) | (replace N9 := ins3 cK N9)); clear cK cN); (try k_sweep); (try dsimp only); (try k_fold)))))))) | ((k_here; (with_reducible show wpAny _ _ (call (Value.ref 821) _) _ _ _); k_dflt (((fail "fq"; refine' CtP.use (back_seg SS9 _ _ _ _ _ _ _) ?qzB ?qzF ?qzX ?qzN ?qzT ?qzK1 ?qzK ?qzp ?qzd ?qzu ?_); ((((case qzB => k_asm); (case qzF => k_asm); (case qzX => k_asm); (case qzN => k_asm); (case qzT => k_asm); (case qzK1 => first | exact rfl | assumption); (case qzK => first | exact rfl | assumption)))); (case qzp => exact ⟨SegP.use SS9 (by k_asm) (by fail "mine sub"), ssl⟩); (case qzd => ktr_room); (case qzu => ktr_units); ((((intro cv ch ctk cS F9 N9 cl cL cP; obtain ⟨fs, cf, cK, cN⟩ := PF.come (by k_asm) (by k_asm) cP; clear cP cS cl cL; (replace AA := up3 AA cN (by fail "mine mem2") (by fail "mine mem2") (by fail "mine mem2")); (try (replace aD := AllNe.ins3 aD (cN (du, _) (by fail "mine mem2")))); (try (replace aT := AllNe.ins4 aT (cN (td, _) (by fail "mine mem2")))); (first | (replace N9 := ins8 cK N9) | (replace N9 := ins7 cK N9) | (replace N9 := ins6 cK N9) | (replace N9 := ins5 cK N9) | (replace N9 := ins4 cK N9) | (replace N9 := ins3 cK N9)); clear cK cN); (try k_sweep); (try dsimp only); (try k_fold)))))))) | ((k_here; (with_reducible show wpAny _ _ (call (Value.ref 816) _) _ _ _); k_dflt (((fail "fq"; refine' CtP.use (ahead_seg SS9 _ _ _ _ _ _ _) ?qzB ?qzF ?qzX ?qzN ?qzT ?qzK1 ?qzK ?qzp ?qzd ?qzu ?_); ((((case qzB => k_asm); (case qzF => k_asm); (case qzX => k_asm); (case qzN => k_asm); (case qzT => k_asm); (case qzK1 => first | exact rfl | assumption); (case qzK => first | exact rfl | assumption)))); (case qzp => exact ⟨SegP.use SS9 (by k_asm) (by fail "mine sub"), ssl⟩); (case qzd => ktr_room); (case qzu => ktr_units); ((((intro cv ch ctk cS F9 N9 cl cL cP; obtain ⟨fs, cf, cK, cN⟩ := PF.come (by k_asm) (by k_asm) cP; clear cP cS cl cL; (replace AA := up3 AA cN (by fail "mine mem2") (by fail "mine mem2") (by fail "mine mem2")); (try (replace aD := AllNe.ins3 aD (cN (du, _) (by fail "mine mem2")))); (try (replace aT := AllNe.ins4 aT (cN (td, _) (by fail "mine mem2")))); (first | (replace N9 := ins8 cK N9) | (replace N9 := ins7 cK N9) | (replace N9 := ins6 cK N9) | (replace N9 := ins5 cK N9) | (replace N9 := ins4 cK N9) | (replace N9 := ins3 cK N9)); clear cK cN); (try k_sweep); (try dsimp only); (try k_fold)))))))) | ((k_here; (with_reducible show wpAny _ _ (call (Value.ref 806) _) _ _ _); k_dflt (((fail "fq"; refine' CtM.useR (draw_seg SD _ dk _ _ _ _ _ (KB.ok kbT ?qzs2) ?qzs3) ?qzB ?qzF ?qzX ?qzN ?qzT ?qzK1 ?qzK (Rems.cons (Rem.head (AllNe.all A0)) Rems.nil) ?qzp ?qzd ?qzu ?_); (case qzB => (k_asm)); (case qzF => (k_asm)); (case qzX => (k_asm)); (case qzN => (first | k_asm | exact drop1 (by k_asm))); (case qzT => (k_asm)); (case qzK1 => (first | exact rfl | assumption)); (case qzK => (first | exact rfl | assumption)); (case qzs2 => decide); (case qzs3 => first | exact ⟨by decide, by decide⟩ | exact many_ok' b8 (by decide) (by decide)); (case qzp => (intro g2 G2 S2; have z9 := SegP.onG SD (by k_asm) (by first | fail "mine sub" | fail) A1 G2; exact ⟨z9, len40⟩)); (case qzd => (ktr_room)); (case qzu => (ktr_units)); (intro cv ch ctk cG F9 N9 cO cP; obtain ⟨r9, t9, tk9, n9, cV, r91, r92, cD⟩ := cP; replace N9 := news_put N9 cD (cO _ (List.Mem.head _)); replace kbT := KB.succ kbT; clear cG cO cD; subst cV; (try k_sweep); (try dsimp only); (try k_fold)))))) | ((k_here; (with_reducible show wpAny _ _ (call (Value.ref 811) _) _ _ _); k_dflt (((fail "fq"; refine' CtP.use (stands_c _ _ _ _ _ _ (str_len b8) (str_len b7)) ?qzB ?qzF ?qzX ?qzN ?qzT ?qzK1 ?qzK trivial ?qzd ?qzu ?_); (case qzB => k_asm); (case qzF => k_asm); (case qzX => k_asm); (case qzN => k_asm); (case qzT => k_asm); (case qzK1 => first | exact rfl | assumption); (case qzK => first | exact rfl | assumption); (case qzd => ktr_room); (case qzu => ktr_units); (intro cv ch ctk cS F9 N9 cl cL cP; obtain ⟨lS, wsS, nS, cV, cQ, hiS, cR⟩ := cP; obtain ⟨NS, dS⟩ := fresh_onto (by k_asm) (by k_asm) N9 cQ cR; clear cl cL cS cQ cR N9; subst cV; (try k_sweep); (try dsimp only); (try k_fold)))))) | ((k_here; (with_reducible show wpAny _ _ (call (Value.ref 806) _) _ _ _); k_dflt (((fail "fq"; refine' CtM.useR (draw_c _ _ _ _ _ _ _ _ _ (KB.ok ?qzs1 ?qzs2) ⟨?qzs3, ?qzs4⟩) ?qzB ?qzF ?qzX ?qzN ?qzT ?qzK1 ?qzK ?qzR ?qzp ?qzd ?qzu ?_); (case qzB => (k_asm)); (case qzF => (k_asm)); (case qzX => (k_asm)); (case qzN => (k_asm)); (case qzT => (k_asm)); (case qzK1 => (first | exact rfl | assumption)); (case qzK => (first | exact rfl | assumption)); (case qzR => (fail "mine rems")); (case qzs1 => (fail "mine kb")); (case qzs2 => decide); (case qzs3 => first | decide | omega); (case qzs4 => first | decide | omega); (case qzp => (intro g2 G2 S2; exact ⟨⟨_, ⟨_, G2 _ _ (News.get (by k_asm) (by k_mem)) (by simp; k_ne), rfl, _, rfl⟩, by assumption⟩, len40⟩)); (case qzd => (ktr_room)); (case qzu => (ktr_units)); (intro cv ch ctk cG F9 N9 cO cP; obtain ⟨r9, t9, tk9, n9, cV, r91, r92, cD⟩ := cP; replace N9 := news_put N9 cD (cO _ (List.Mem.head _)); clear cG cO cD; subst cV; (try k_sweep); (try dsimp only); (try k_fold)); )))) | fail) | ((with_reducible show wpAny _ _ (pyIter (Value.ref _)) _ _ _); k_dflt ((((rename News _ _ _ _ => N6); refine' range_T (σ := LS) 4 [Str.ofString "place", Str.ofString "count", Str.ofString "high", Str.ofString "low", Str.ofString "due", Str.ofString "told_own", Str.ofString "found"] (fun st => (dk, W.listOf #[.ref dc, .int st.k st.tk] st.n) :: (PT, tabObj st.ps) :: st.tl) (fun i st => KB st.k (18 + 4 * (i : Int)) ∧ LoopI dk PT _ _ _ dc _ _ _ _ _ _ (Str.ofString "law.<locals>.<lambda>") st.ps st.tl) ⟨_, _, _, _, _⟩ rfl (by assumption) (by decide) rfl (by assumption) N6 ⟨kbL, LI⟩ (fun i9 t9 u9 st9 h9 tk9 I9 oI9 hi9 hP9 off9 F9 N9 => ?_) (fun u9 st9 h9 tk9 hP9 F9 N9 => ?_); rotate_left; (subst hPT); rotate_right)))) | walk1 | (k_end; wrow_close) | (dsimp only; walk1) | (leave1; try dsimp only) | (dsimp only) | fail "no step")))
end
end
end Mine
theorem PySem.Challenge.cw_np0108_01_holds : PySem.Challenge.rw_np0108_01.Holds :=
  Mine.hd
