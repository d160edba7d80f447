import PyProof.Rows.All
import Wide.All
import OpenK.AllK
import Wide.FinOn
import PySem.Challenge.RW_rg0137_01
open PySem PySem.W PySem.Spec PySem.Calls PyProof.Rows
set_option Elab.async false
namespace Mine

theorem hd.tw10012880186880212623 : True := .intro
theorem hd.tw10024716035694756283 : True := .intro
theorem hd.tw100483095206116625 : True := .intro
theorem hd.tw10111801491309104144 : True := .intro
theorem hd.tw1013155817946168525 : True := .intro
theorem hd.tw10144816814625151507 : True := .intro
theorem hd.tw10170382586518783626 : True := .intro
theorem hd.tw10216474801634566288 : True := .intro
theorem hd.tw10246146449241189800 : True := .intro
theorem hd.tw10258999931320997221 : True := .intro
theorem hd.tw10403243965636340961 : True := .intro
theorem hd.tw10404513684093684653 : True := .intro
theorem hd.tw10424393626065333798 : True := .intro
theorem hd.tw10458740792067480800 : True := .intro
theorem hd.tw10491609206876299696 : True := .intro
theorem hd.tw10507497572311344420 : True := .intro
theorem hd.tw10583446816852156582 : True := .intro
theorem hd.tw10601615944963115059 : True := .intro
theorem hd.tw10603584201595350602 : True := .intro
theorem hd.tw10678649693572172417 : True := .intro
theorem hd.tw10727248033764811480 : True := .intro
theorem hd.tw10738003575532504788 : True := .intro
theorem hd.tw10752148897807903841 : True := .intro
theorem hd.tw10784824025267889561 : True := .intro
theorem hd.tw10792051664901133789 : True := .intro
theorem hd.tw10860895700388868024 : True := .intro
theorem hd.tw10879034167726328663 : True := .intro
theorem hd.tw10949625832625181284 : True := .intro
theorem hd.tw1097998534492414930 : True := .intro
theorem hd.tw11011131195910976488 : True := .intro
theorem hd.tw11054480109507316185 : True := .intro
theorem hd.tw11079593142295127227 : True := .intro
theorem hd.tw11117797201346649052 : True := .intro
theorem hd.tw11128854368766332075 : True := .intro
theorem hd.tw11162318198679636149 : True := .intro
theorem hd.tw1118553966540926140 : True := .intro
theorem hd.tw11210553801493137410 : True := .intro
theorem hd.tw11213053971927718326 : True := .intro
theorem hd.tw11232374478483605306 : True := .intro
theorem hd.tw11251137523995926341 : True := .intro
theorem hd.tw11319097763535126812 : True := .intro
theorem hd.tw11319892378374348655 : True := .intro
theorem hd.tw11389486352061984695 : True := .intro
theorem hd.tw11402939732021071671 : True := .intro
theorem hd.tw11465210709893060100 : True := .intro
theorem hd.tw11513968764499736323 : True := .intro
theorem hd.tw11551083187376567056 : True := .intro
theorem hd.tw11587034568685482758 : True := .intro
theorem hd.tw11631869004601391166 : True := .intro
theorem hd.tw11631947586910100387 : True := .intro
theorem hd.tw11652457597714270106 : True := .intro
theorem hd.tw11660266114150955751 : True := .intro
theorem hd.tw11709330566771433103 : True := .intro
theorem hd.tw11754176132448286083 : True := .intro
theorem hd.tw11778180911958503814 : True := .intro
theorem hd.tw11801993109049149486 : True := .intro
theorem hd.tw11893437276241958245 : True := .intro
theorem hd.tw11917015161858427179 : True := .intro
theorem hd.tw1194904439430580092 : True := .intro
theorem hd.tw11953376511379268794 : True := .intro
theorem hd.tw1197925565968671727 : True := .intro
theorem hd.tw12023040214023829324 : True := .intro
theorem hd.tw12050417470231563642 : True := .intro
theorem hd.tw12070051907170230399 : True := .intro
theorem hd.tw12092154237167983948 : True := .intro
theorem hd.tw12112201142124510154 : True := .intro
theorem hd.tw12113243949977362033 : True := .intro
theorem hd.tw12173100003817136821 : True := .intro
theorem hd.tw1222794163293265305 : True := .intro
theorem hd.tw12239354291974867115 : True := .intro
theorem hd.tw12271959270614036898 : True := .intro
theorem hd.tw12374041931403950375 : True := .intro
theorem hd.tw12394076208661396346 : True := .intro
theorem hd.tw12399718760709695909 : True := .intro
theorem hd.tw12487502673411948298 : True := .intro
theorem hd.tw12588582704262371052 : True := .intro
theorem hd.tw12591134339009171964 : True := .intro
theorem hd.tw12602439190401603521 : True := .intro
theorem hd.tw12614811148066621264 : True := .intro
theorem hd.tw12629568148972539762 : True := .intro
theorem hd.tw12631932088317031055 : True := .intro
theorem hd.tw12647368939536790636 : True := .intro
theorem hd.tw12744807935193187038 : True := .intro
theorem hd.tw12769127236821124696 : True := .intro
theorem hd.tw12901994302517312135 : True := .intro
theorem hd.tw12949589719889679912 : True := .intro
theorem hd.tw1299046323782801668 : True := .intro
theorem hd.tw13038990169509382042 : True := .intro
theorem hd.tw13181700845877081190 : True := .intro
theorem hd.tw13217225542625558698 : True := .intro
theorem hd.tw13220430256171166289 : True := .intro
theorem hd.tw13225837485096350037 : True := .intro
theorem hd.tw13267510147771200024 : True := .intro
theorem hd.tw13277076834127875243 : True := .intro
theorem hd.tw13280443560766958183 : True := .intro
theorem hd.tw13285133528070534704 : True := .intro
theorem hd.tw13289513938125300765 : True := .intro
theorem hd.tw13315533130655954831 : True := .intro
theorem hd.tw13321331477185743149 : True := .intro
theorem hd.tw13330244855972007585 : True := .intro
theorem hd.tw13342606739435360313 : True := .intro
theorem hd.tw13372043803930879067 : True := .intro
theorem hd.tw13409441903868389331 : True := .intro
theorem hd.tw13431754692932380062 : True := .intro
theorem hd.tw13466754112058979494 : True := .intro
theorem hd.tw13483081372092288885 : True := .intro
theorem hd.tw13576001757907426199 : True := .intro
theorem hd.tw1359830224848277088 : True := .intro
theorem hd.tw13609717118414637909 : True := .intro
theorem hd.tw13638418597567726942 : True := .intro
theorem hd.tw13642289790063256904 : True := .intro
theorem hd.tw13770079208771991547 : True := .intro
theorem hd.tw13783031573616600631 : True := .intro
theorem hd.tw13790719812936386609 : True := .intro
theorem hd.tw1382963296337349011 : True := .intro
theorem hd.tw13855946660403688772 : True := .intro
theorem hd.tw13866372431405929976 : True := .intro
theorem hd.tw13893168526513508166 : True := .intro
theorem hd.tw13903934854276604550 : True := .intro
theorem hd.tw14060154772996877548 : True := .intro
theorem hd.tw14091984216438838776 : True := .intro
theorem hd.tw1409312971732116557 : True := .intro
theorem hd.tw14103535550066685397 : True := .intro
theorem hd.tw1413172679324656950 : True := .intro
theorem hd.tw14294001040229213422 : True := .intro
theorem hd.tw14353793391729792155 : True := .intro
theorem hd.tw14400467628812073631 : True := .intro
theorem hd.tw14457593812595234344 : True := .intro
theorem hd.tw14478148883734587675 : True := .intro
theorem hd.tw14553816603554493358 : True := .intro
theorem hd.tw14598272352848978880 : True := .intro
theorem hd.tw14620637471214046174 : True := .intro
theorem hd.tw14705683404202351889 : True := .intro
theorem hd.tw14745743045033390146 : True := .intro
theorem hd.tw14768889098011018680 : True := .intro
theorem hd.tw14772383043592177042 : True := .intro
theorem hd.tw14851293442969957182 : True := .intro
theorem hd.tw14852329139284432860 : True := .intro
theorem hd.tw1486356043385980881 : True := .intro
theorem hd.tw14892549342360969540 : True := .intro
theorem hd.tw14896477498954680388 : True := .intro
theorem hd.tw14906377314874228009 : True := .intro
theorem hd.tw14955159897011116063 : True := .intro
theorem hd.tw14960593345356199642 : True := .intro
theorem hd.tw14980023328507725902 : True := .intro
theorem hd.tw15048261121198461528 : True := .intro
theorem hd.tw1506431575118746342 : True := .intro
theorem hd.tw15083628210047938546 : True := .intro
theorem hd.tw15103106377680225435 : True := .intro
theorem hd.tw15166520500009309586 : True := .intro
theorem hd.tw15196134644859098719 : True := .intro
theorem hd.tw15220180469806662145 : True := .intro
theorem hd.tw15344866539931968096 : True := .intro
theorem hd.tw15367242080415987702 : True := .intro
theorem hd.tw15411387601460861337 : True := .intro
theorem hd.tw15416985209724490359 : True := .intro
theorem hd.tw15422856539912107476 : True := .intro
theorem hd.tw15508949281206285077 : True := .intro
theorem hd.tw15527848837575444561 : True := .intro
theorem hd.tw15595854959937240912 : True := .intro
theorem hd.tw15615420239508185596 : True := .intro
theorem hd.tw15616948245753086127 : True := .intro
theorem hd.tw15642763164714097627 : True := .intro
theorem hd.tw15643275761693703936 : True := .intro
theorem hd.tw15673258824015622330 : True := .intro
theorem hd.tw15683763237869141255 : True := .intro
theorem hd.tw15790720579355451973 : True := .intro
theorem hd.tw1580110805410547442 : True := .intro
theorem hd.tw15813434630575017362 : True := .intro
theorem hd.tw15833661619300960221 : True := .intro
theorem hd.tw15837987909243819085 : True := .intro
theorem hd.tw15852365999677673905 : True := .intro
theorem hd.tw1588505670450824345 : True := .intro
theorem hd.tw1589133516308662214 : True := .intro
theorem hd.tw15910714762333108613 : True := .intro
theorem hd.tw15946388913382835224 : True := .intro
theorem hd.tw15948780112781908787 : True := .intro
theorem hd.tw15967140613478806237 : True := .intro
theorem hd.tw15987713032478767096 : True := .intro
theorem hd.tw1600037746751723098 : True := .intro
theorem hd.tw16006246977917349235 : True := .intro
theorem hd.tw16011055738799735888 : True := .intro
theorem hd.tw16064382804478563927 : True := .intro
theorem hd.tw16091413853298234908 : True := .intro
theorem hd.tw1610171440888473627 : True := .intro
theorem hd.tw16154546982801380032 : True := .intro
theorem hd.tw16155205043701107222 : True := .intro
theorem hd.tw16171809288044610508 : True := .intro
theorem hd.tw16194383521188589630 : True := .intro
theorem hd.tw16211521421427940678 : True := .intro
theorem hd.tw16240987189780228909 : True := .intro
theorem hd.tw16259696140248634718 : True := .intro
theorem hd.tw162610821266807592 : True := .intro
theorem hd.tw16299908979028503884 : True := .intro
theorem hd.tw16302227732802510677 : True := .intro
theorem hd.tw16412773359747925120 : True := .intro
theorem hd.tw16432713993328977331 : True := .intro
theorem hd.tw16477043939570097188 : True := .intro
theorem hd.tw16640546478005224243 : True := .intro
theorem hd.tw16649331688326792143 : True := .intro
theorem hd.tw16713699803418581334 : True := .intro
theorem hd.tw16722109127936396110 : True := .intro
theorem hd.tw16772102934027710169 : True := .intro
theorem hd.tw16794629799341752650 : True := .intro
theorem hd.tw16828841361933241965 : True := .intro
theorem hd.tw16853341256802265648 : True := .intro
theorem hd.tw16858285156579221889 : True := .intro
theorem hd.tw16868993833207775613 : True := .intro
theorem hd.tw16904818350239718627 : True := .intro
theorem hd.tw16920754564084929960 : True := .intro
theorem hd.tw16937758522973970373 : True := .intro
theorem hd.tw16945582573551092051 : True := .intro
theorem hd.tw1699103778626983548 : True := .intro
theorem hd.tw17001982702790524580 : True := .intro
theorem hd.tw17062030032774818151 : True := .intro
theorem hd.tw1712922718373300912 : True := .intro
theorem hd.tw17130151131035750659 : True := .intro
theorem hd.tw17177331786930743035 : True := .intro
theorem hd.tw17183224562656869120 : True := .intro
theorem hd.tw17213754286329925777 : True := .intro
theorem hd.tw17234923516513369237 : True := .intro
theorem hd.tw17252143746492648416 : True := .intro
theorem hd.tw17258206423299326598 : True := .intro
theorem hd.tw17311223219408574766 : True := .intro
theorem hd.tw17330945745186091897 : True := .intro
theorem hd.tw17336936450418997793 : True := .intro
theorem hd.tw17377529257436501650 : True := .intro
theorem hd.tw17379287091283010612 : True := .intro
theorem hd.tw17387473266821786944 : True := .intro
theorem hd.tw17447410573909459338 : True := .intro
theorem hd.tw17491280204586788870 : True := .intro
theorem hd.tw17491317419825422843 : True := .intro
theorem hd.tw17542962492245011380 : True := .intro
theorem hd.tw17562767543260142214 : True := .intro
theorem hd.tw17574625026820762457 : True := .intro
theorem hd.tw17588044629489971554 : True := .intro
theorem hd.tw17599816209265215132 : True := .intro
theorem hd.tw1760603350576429475 : True := .intro
theorem hd.tw17672654358674132775 : True := .intro
theorem hd.tw17673860158736603733 : True := .intro
theorem hd.tw17681399029576232318 : True := .intro
theorem hd.tw17711083657039698284 : True := .intro
theorem hd.tw17714235663813219645 : True := .intro
theorem hd.tw17739348878880393726 : True := .intro
theorem hd.tw1781861727890032366 : True := .intro
theorem hd.tw17843490464661113860 : True := .intro
theorem hd.tw17893044597097874663 : True := .intro
theorem hd.tw17901334829092211166 : True := .intro
theorem hd.tw17903497710992402801 : True := .intro
theorem hd.tw17919194246423945575 : True := .intro
theorem hd.tw17948085552500728524 : True := .intro
theorem hd.tw17950676927832955104 : True := .intro
theorem hd.tw17975533764899295144 : True := .intro
theorem hd.tw17986969038992634876 : True := .intro
theorem hd.tw1800889605409440832 : True := .intro
theorem hd.tw18093812233618175256 : True := .intro
theorem hd.tw18103342009636024947 : True := .intro
theorem hd.tw18103420901670897651 : True := .intro
theorem hd.tw18166333605607142505 : True := .intro
theorem hd.tw18185175575083235020 : True := .intro
theorem hd.tw18219297243305740317 : True := .intro
theorem hd.tw18245042118932799458 : True := .intro
theorem hd.tw18264374347568628810 : True := .intro
theorem hd.tw18291419657060728153 : True := .intro
theorem hd.tw18293732401869909652 : True := .intro
theorem hd.tw18293851220164018083 : True := .intro
theorem hd.tw18322514126500204803 : True := .intro
theorem hd.tw18343703819029505601 : True := .intro
theorem hd.tw1836080755315867724 : True := .intro
theorem hd.tw1847840615245081061 : True := .intro
theorem hd.tw1848646778235469078 : True := .intro
theorem hd.tw185848376630758926 : True := .intro
theorem hd.tw1865391376527767206 : True := .intro
theorem hd.tw1882180444382439491 : True := .intro
theorem hd.tw190519026028168232 : True := .intro
theorem hd.tw1954109241102656831 : True := .intro
theorem hd.tw1997569388931296116 : True := .intro
theorem hd.tw2051048951616859547 : True := .intro
theorem hd.tw2068664650715991707 : True := .intro
theorem hd.tw2101469004524951375 : True := .intro
theorem hd.tw2114630138375439770 : True := .intro
theorem hd.tw212345690472687942 : True := .intro
theorem hd.tw2167537188350426706 : True := .intro
theorem hd.tw2195365466389143174 : True := .intro
theorem hd.tw2216850387143573719 : True := .intro
theorem hd.tw2252305205657439004 : True := .intro
theorem hd.tw226724450230711188 : True := .intro
theorem hd.tw2274498078352570744 : True := .intro
theorem hd.tw2284436838669742495 : True := .intro
theorem hd.tw2304311442786299043 : True := .intro
theorem hd.tw2315301623876862497 : True := .intro
theorem hd.tw2323474266016966308 : True := .intro
theorem hd.tw2329189449893159454 : True := .intro
theorem hd.tw2386827423013361158 : True := .intro
theorem hd.tw2391449824757734642 : True := .intro
theorem hd.tw2442259710966052079 : True := .intro
theorem hd.tw2457190517430149469 : True := .intro
theorem hd.tw2502866573005156581 : True := .intro
theorem hd.tw2506014165581128084 : True := .intro
theorem hd.tw250903467453971090 : True := .intro
theorem hd.tw2524978443121100084 : True := .intro
theorem hd.tw2603259988358896889 : True := .intro
theorem hd.tw2608437505485318709 : True := .intro
theorem hd.tw26425463804135960 : True := .intro
theorem hd.tw2708950531961675432 : True := .intro
theorem hd.tw2783992281797965187 : True := .intro
theorem hd.tw2788664435532181463 : True := .intro
theorem hd.tw2799067240506288376 : True := .intro
theorem hd.tw280609765759037681 : True := .intro
theorem hd.tw2845679848157327705 : True := .intro
theorem hd.tw2867327485932766208 : True := .intro
theorem hd.tw2887051446865420828 : True := .intro
theorem hd.tw2918972944388192285 : True := .intro
theorem hd.tw2999033326186475339 : True := .intro
theorem hd.tw3008623586974134963 : True := .intro
theorem hd.tw3109861748172591687 : True := .intro
theorem hd.tw3182187488490625086 : True := .intro
theorem hd.tw3219085151875037572 : True := .intro
theorem hd.tw3221592705415737273 : True := .intro
theorem hd.tw3229955645248102723 : True := .intro
theorem hd.tw3259873300814134281 : True := .intro
theorem hd.tw3309697970292668127 : True := .intro
theorem hd.tw3310731293184615908 : True := .intro
theorem hd.tw3350844169311001129 : True := .intro
theorem hd.tw3381375190539634487 : True := .intro
theorem hd.tw3404104791013757517 : True := .intro
theorem hd.tw3429492842335990350 : True := .intro
theorem hd.tw3442329435671937591 : True := .intro
theorem hd.tw3443669649825651883 : True := .intro
theorem hd.tw3451239065008710300 : True := .intro
theorem hd.tw3452082135128663414 : True := .intro
theorem hd.tw3480954088277226078 : True := .intro
theorem hd.tw3493717111155160527 : True := .intro
theorem hd.tw3571134770919094901 : True := .intro
theorem hd.tw3646829019195819677 : True := .intro
theorem hd.tw3694398316872202419 : True := .intro
theorem hd.tw3704167492566942397 : True := .intro
theorem hd.tw3759623122121258479 : True := .intro
theorem hd.tw3789350110615891812 : True := .intro
theorem hd.tw3795277891434052102 : True := .intro
theorem hd.tw3828038474966422129 : True := .intro
theorem hd.tw3915529967508079626 : True := .intro
theorem hd.tw3919010098100093602 : True := .intro
theorem hd.tw3953601041324332601 : True := .intro
theorem hd.tw4014540891139286612 : True := .intro
theorem hd.tw4015398097383911347 : True := .intro
theorem hd.tw4025436138054765562 : True := .intro
theorem hd.tw402640490398009360 : True := .intro
theorem hd.tw4065347644161347641 : True := .intro
theorem hd.tw4115565904173853331 : True := .intro
theorem hd.tw4159134105002834734 : True := .intro
theorem hd.tw4172343393113369950 : True := .intro
theorem hd.tw4225703048834024713 : True := .intro
theorem hd.tw4272726840584523970 : True := .intro
theorem hd.tw4315991029959535628 : True := .intro
theorem hd.tw432457690288141553 : True := .intro
theorem hd.tw4383666589626881386 : True := .intro
theorem hd.tw4402725079659364252 : True := .intro
theorem hd.tw4478964076566166474 : True := .intro
theorem hd.tw4494801613693538912 : True := .intro
theorem hd.tw4523669819894539328 : True := .intro
theorem hd.tw461538923250603899 : True := .intro
theorem hd.tw4642405928176397000 : True := .intro
theorem hd.tw464777395874653626 : True := .intro
theorem hd.tw4702841417184801058 : True := .intro
theorem hd.tw4706079058837389440 : True := .intro
theorem hd.tw4788038989552484473 : True := .intro
theorem hd.tw4851647983119433812 : True := .intro
theorem hd.tw4870687313549177768 : True := .intro
theorem hd.tw4971549296188076032 : True := .intro
theorem hd.tw4990156530697904881 : True := .intro
theorem hd.tw4993660671451451078 : True := .intro
theorem hd.tw5009564483982726761 : True := .intro
theorem hd.tw5036846961687405229 : True := .intro
theorem hd.tw5130813555471234732 : True := .intro
theorem hd.tw5148922909946612681 : True := .intro
theorem hd.tw5174551420813472067 : True := .intro
theorem hd.tw5190246844813560578 : True := .intro
theorem hd.tw519851828213033955 : True := .intro
theorem hd.tw5238241317806426387 : True := .intro
theorem hd.tw5245234834050458271 : True := .intro
theorem hd.tw5247051413645994129 : True := .intro
theorem hd.tw5282504435634884242 : True := .intro
theorem hd.tw5283464899586487735 : True := .intro
theorem hd.tw5292301768408028288 : True := .intro
theorem hd.tw5343241284826551009 : True := .intro
theorem hd.tw5373601922739893978 : True := .intro
theorem hd.tw541196102884509978 : True := .intro
theorem hd.tw5416991563250132298 : True := .intro
theorem hd.tw5480042469492414594 : True := .intro
theorem hd.tw5505005885091257285 : True := .intro
theorem hd.tw5511420028821071320 : True := .intro
theorem hd.tw5608270528595127837 : True := .intro
theorem hd.tw5629675986466331604 : True := .intro
theorem hd.tw5635641802508607975 : True := .intro
theorem hd.tw5657824000916062451 : True := .intro
theorem hd.tw5716766192118558609 : True := .intro
theorem hd.tw5732804406350252772 : True := .intro
theorem hd.tw5902613922787404954 : True := .intro
theorem hd.tw5978321128707920903 : True := .intro
theorem hd.tw5987830557187376847 : True := .intro
theorem hd.tw6038821095411175016 : True := .intro
theorem hd.tw6060742912462422084 : True := .intro
theorem hd.tw6082411064634330575 : True := .intro
theorem hd.tw6123773746684550334 : True := .intro
theorem hd.tw6140570298594658328 : True := .intro
theorem hd.tw6164396464334811476 : True := .intro
theorem hd.tw6184460063843016694 : True := .intro
theorem hd.tw6291416237084387574 : True := .intro
theorem hd.tw6293948785866598258 : True := .intro
theorem hd.tw6305734824756694309 : True := .intro
theorem hd.tw6394381022753523788 : True := .intro
theorem hd.tw6407587892757256292 : True := .intro
theorem hd.tw6411954120941647267 : True := .intro
theorem hd.tw6423634429210846174 : True := .intro
theorem hd.tw6438293893037913957 : True := .intro
theorem hd.tw6482722132109649516 : True := .intro
theorem hd.tw6528754448969337418 : True := .intro
theorem hd.tw6545403380812914513 : True := .intro
theorem hd.tw6547078798241139092 : True := .intro
theorem hd.tw6555240042291301478 : True := .intro
theorem hd.tw6578402527460240241 : True := .intro
theorem hd.tw6598312636042714100 : True := .intro
theorem hd.tw6759412095888398321 : True := .intro
theorem hd.tw6767318904944593275 : True := .intro
theorem hd.tw6785817131721698500 : True := .intro
theorem hd.tw6804821044290156842 : True := .intro
theorem hd.tw6818987989461384207 : True := .intro
theorem hd.tw6820862383352777685 : True := .intro
theorem hd.tw6830512106363814048 : True := .intro
theorem hd.tw6838551448383532254 : True := .intro
theorem hd.tw6882427118574961969 : True := .intro
theorem hd.tw6906073325868019850 : True := .intro
theorem hd.tw6924109203229866365 : True := .intro
theorem hd.tw6931407450589930559 : True := .intro
theorem hd.tw6965799899956892507 : True := .intro
theorem hd.tw6990203504111849199 : True := .intro
theorem hd.tw701787995468756871 : True := .intro
theorem hd.tw7023726343779634624 : True := .intro
theorem hd.tw7028611270464810887 : True := .intro
theorem hd.tw7068711184596962023 : True := .intro
theorem hd.tw7082855905992002993 : True := .intro
theorem hd.tw7085514621470718492 : True := .intro
theorem hd.tw7120233287515763914 : True := .intro
theorem hd.tw7133641032537487646 : True := .intro
theorem hd.tw7153062008950511462 : True := .intro
theorem hd.tw7270182246851987180 : True := .intro
theorem hd.tw728884934406724761 : True := .intro
theorem hd.tw7289634563603522867 : True := .intro
theorem hd.tw7296583596125217682 : True := .intro
theorem hd.tw7355570028127101125 : True := .intro
theorem hd.tw7366208706002141716 : True := .intro
theorem hd.tw7369741819223213686 : True := .intro
theorem hd.tw7382370116671421104 : True := .intro
theorem hd.tw7438314255253156184 : True := .intro
theorem hd.tw7494724483528729301 : True := .intro
theorem hd.tw7510230149288206974 : True := .intro
theorem hd.tw7512474625130614241 : True := .intro
theorem hd.tw7523672394736509286 : True := .intro
theorem hd.tw7525542149764818722 : True := .intro
theorem hd.tw7526368328331116154 : True := .intro
theorem hd.tw7540655947842036084 : True := .intro
theorem hd.tw7610815399733428385 : True := .intro
theorem hd.tw7654286748164834634 : True := .intro
theorem hd.tw7676003278276379012 : True := .intro
theorem hd.tw7721951785955056133 : True := .intro
theorem hd.tw7746578258024575070 : True := .intro
theorem hd.tw7752767780024739350 : True := .intro
theorem hd.tw7754304195085646258 : True := .intro
theorem hd.tw7763873220885509757 : True := .intro
theorem hd.tw7793673504863384051 : True := .intro
theorem hd.tw7854111351294004744 : True := .intro
theorem hd.tw7891253978561527248 : True := .intro
theorem hd.tw7914949630228597729 : True := .intro
theorem hd.tw8004679753235328684 : True := .intro
theorem hd.tw8025032847418708242 : True := .intro
theorem hd.tw8047900516022102942 : True := .intro
theorem hd.tw8053944837975664402 : True := .intro
theorem hd.tw8068729725432388964 : True := .intro
theorem hd.tw8081886968326746073 : True := .intro
theorem hd.tw8112040973832200146 : True := .intro
theorem hd.tw8117029840178788049 : True := .intro
theorem hd.tw8134915037123179040 : True := .intro
theorem hd.tw8184699220007379433 : True := .intro
theorem hd.tw8226494294326810461 : True := .intro
theorem hd.tw8228950375871286339 : True := .intro
theorem hd.tw8242931771332617035 : True := .intro
theorem hd.tw8268277133935991078 : True := .intro
theorem hd.tw8343274005884668182 : True := .intro
theorem hd.tw8381844023166312768 : True := .intro
theorem hd.tw8428860471423672150 : True := .intro
theorem hd.tw845060206244984605 : True := .intro
theorem hd.tw8457440626546761165 : True := .intro
theorem hd.tw8458067239894703972 : True := .intro
theorem hd.tw8516288146210602744 : True := .intro
theorem hd.tw8538877666451538035 : True := .intro
theorem hd.tw8545014587354053640 : True := .intro
theorem hd.tw8609351116199087170 : True := .intro
theorem hd.tw8652628183442184457 : True := .intro
theorem hd.tw8684328023851190084 : True := .intro
theorem hd.tw868934573200995319 : True := .intro
theorem hd.tw8716120427605611371 : True := .intro
theorem hd.tw8727321023445011275 : True := .intro
theorem hd.tw876933089483189297 : True := .intro
theorem hd.tw8770205317985620760 : True := .intro
theorem hd.tw8789358453043137523 : True := .intro
theorem hd.tw881544763273948857 : True := .intro
theorem hd.tw8879563391730754479 : True := .intro
theorem hd.tw8934143017859847078 : True := .intro
theorem hd.tw8960069828448710407 : True := .intro
theorem hd.tw8977307856219701671 : True := .intro
theorem hd.tw8990313861142287110 : True := .intro
theorem hd.tw9153386212771759811 : True := .intro
theorem hd.tw9170477692918782315 : True := .intro
theorem hd.tw9184186324627900627 : True := .intro
theorem hd.tw920214292312260371 : True := .intro
theorem hd.tw922143313871775805 : True := .intro
theorem hd.tw9228397985900620932 : True := .intro
theorem hd.tw9277588360372424766 : True := .intro
theorem hd.tw9298403506768410418 : True := .intro
theorem hd.tw9345676750909349944 : True := .intro
theorem hd.tw9345929723534960622 : True := .intro
theorem hd.tw9386895884608548742 : True := .intro
theorem hd.tw9398405308114057262 : True := .intro
theorem hd.tw9421340871869096474 : True := .intro
theorem hd.tw9427301549700849589 : True := .intro
theorem hd.tw9430268157657104642 : True := .intro
theorem hd.tw9483488259628991918 : True := .intro
theorem hd.tw9499510787657705874 : True := .intro
theorem hd.tw9641152695372364146 : True := .intro
theorem hd.tw9657781627882305391 : True := .intro
theorem hd.tw9702936160620672325 : True := .intro
theorem hd.tw970969322248707465 : True := .intro
theorem hd.tw9719896912496429819 : True := .intro
theorem hd.tw9731375825926819010 : True := .intro
theorem hd.tw9741134391959003819 : True := .intro
theorem hd.tw9783614193127449063 : True := .intro
theorem hd.tw978945382295711627 : True := .intro
theorem hd.tw991583007596301734 : True := .intro
theorem hd.tw9960721518486171458 : True := .intro
theorem use_ {T P : Prop} (_ : T → P) : True := trivial
theorem fst_ {T P : Prop} (_ : T) (k : P) : P := k
set_option maxRecDepth 100000 in
set_option maxHeartbeats 8000000 in
set_option Elab.async true in
theorem hd : True := by
  refine' use_ (P := PySem.Challenge.rw_rg0137_01.Holds) ?f
  case f =>
    as_aux_lemma =>
      intro h
      refine' fst_ (?hc : type_of% h) ?g
      exact h
      case g =>
        w_on
        o_law
        k_head
        (case hw => w_witness2)
set_option maxRecDepth 100000
local macro_rules | `(tactic| walk_at $s:str) => `(tactic| k_extra $s)
local macro_rules | `(tactic| k_ne) => `(tactic| k_extra "k_ne")
local macro_rules | `(tactic| k_inst) => `(tactic| k_extra "k_inst")
local macro_rules | `(tactic| k_get) => `(tactic| k_extra "k_get")
local macro_rules | `(tactic| kmk_nums) => `(tactic| k_extra "kmk_nums")

section PBase
/-- how a body ends that changes nothing of what stood at the call -/
def BodyEnd (g : Heap) (s : Shared) (post : Heap → Heap → Value → Prop) (v : Value) (s' : Shared) : Prop :=
  ∃ h' tk, s' = { s with heap := h', toks := tk } ∧ g.StaysIn h' ∧ post g h' v

structure PostIs (P : Prop) : Prop where
  out : P
theorem bodyEnd_ {g : Heap} {s : Shared} {L : Addr} {m : Str → Option Value} {post : Heap → Heap → Value → Prop} {v : Value} {h' : Heap} {tk : Nat} (F : Fr g L h' m) (hp : PostIs (post g h' v)) :
    BodyEnd g s post v { s with heap := h', toks := tk } := ⟨h', tk, rfl, F.keep, hp.out⟩

/-- a contract of a def that changes nothing of what stands: f on vs, deep d; pre of the heap at the call; post of the heap behind it and the value -/
def PCall (w : World) (f : Addr) (vs : List Value) (d : Nat) (pre : Heap → Prop) (post : Heap → Heap → Value → Prop) : Prop :=
  ∀ (p : Program) (loose : List Str) (mean : ExcName → Option Value) (mg mb : Str → Option Value) (dp un : Nat) (gd : Option (List Code)) (cn : Str) (cs : Scope) (a : Addr) (ccd : Value) (cl : List (Str × Addr)) (outer : List Env) (A₀ : Around) (base h₀ : Heap) (L : Addr) (m : Str → Option Value) (s : Shared) (Q E : Value → Shared → Prop),
    Below A₀ base outer h₀ → Fr h₀ L s.heap m → (Mine.hd.heap_1_39 w.params).In h₀ → Top p loose mean mg mb h₀ → cs.kind = .function → pre s.heap →
    dp + d < recursionLimit → un + 8 * d < cLine →
    (∀ v h' tk, Fr h₀ L h' m → s.heap.StaysIn h' → post s.heap h' v → Q v { s with heap := h', toks := tk }) →
    wpAny (model PySem.Challenge.rw_rg0137_01.row.prog w) (ktrTop dp un gd cn cs L a ccd cl outer) (call (.ref f) vs) Q E s

theorem pcall_of {w : World} {f : Addr} {vs : List Value} {d : Nat} {pre : Heap → Prop} {post : Heap → Heap → Value → Prop}
    {name qual : Str} {params : Arguments} {body : List Stmt} {scope : Scope} {dV kV doc pm cdv ct oc : Value} {an od : Option Addr} {osl : Array (Option Value)} {binds : List (Str × Value)}
    (ho : (Mine.hd.heap_1_39 w.params).lookup f = some ⟨oc, od, .func (fnOf name qual params body scope dV kV doc pm an cdv ct), osl⟩) (hcd : codeIn (Mine.hd.heap_1_39 w.params) cdv qual = true)
    (hbind : ∀ s, BindsTo s (fnOf name qual params body scope dV kV doc pm an cdv ct) ⟨vs, []⟩ binds) (hloc : ∀ y ∈ binds, scope.names.lookup y.1 = some .local)
    (hco : scope.isCoroutine = false) (hgen : scope.isGenerator = false) (hk : scope.kind = .function) (hcell : ∀ x ∈ scope.names, x.2 ≠ .cell) (hd1 : 1 ≤ d)
    (h : ∀ (p : Program) (loose : List Str) (mean : ExcName → Option Value) (mg mb : Str → Option Value) (dp un : Nat) (gd : Option (List Code)) (outer : List Env) (A₀ : Around) (base g : Heap) (L : Addr) (h₁ : Heap) (s : Shared),
      Below A₀ base outer g → Fr g L h₁ (fun y => binds.reverse.lookup y) → News g L h₁ [] → (Mine.hd.heap_1_39 w.params).In g → Top p loose mean mg mb g → pre g →
      dp + d < recursionLimit + 1 → un + 8 * d < cLine + 3 →
      wpAny (model PySem.Challenge.rw_rg0137_01.row.prog w) (ktrTop dp un gd qual scope L f cdv [] outer) (execs body (envOf qual scope L f cdv))
        (fun fl s' => BodyEnd g s post (match fl with | .ret v => v | _ => .none) s') (fun _ _ => False) { s with heap := h₁ }) :
    PCall w f vs d pre post := by
  intro p loose mean mg mb dp un gd cn cs a ccd cl outer A₀ base h₀ L m s Q E B F X T hck hpre hdp hun hret
  refine wpAny_call ?_
  have N : News h₀ L s.heap [] := News.nil
  obtain ⟨FG, BG, st, lv⟩ := groundX (A := ktrTop dp un gd cn cs L a ccd cl outer) (R := fun r s' => match r with | .ok (.ret v) => Q v s' | .ok _ => False | .error e => E e s') B F N rfl rfl hck
  refine codeAny_call_def (fd := fnOf name qual params body scope dV kV doc pm an cdv ct) (body := body) (binds := binds) ?_ ((X.keeps F.keep) _ _ ho) rfl (T.nolimit.keeps F.keep) (codeRec_of (X.keeps F.keep) hcd) rfl (hbind s) hcell hloc (fun h₁ hns hk₁ => ?_) hco hgen hk
  · show dp < recursionLimit
    omega
  refine wpAny_mono (h p loose mean mg mb (dp + 1) (un + 3) gd _ _ base s.heap s.heap.objs.size h₁ { s with toks := s.toks + binds.length } BG ⟨hns, fun b o e => hk₁ b o e, Nat.le_refl _⟩ News.nil (X.keeps F.keep) (T.keeps F.keep) hpre (by omega) (by omega)) (fun fl s' hl => ?_) fun _ _ y => y.elim
  obtain ⟨h', tk, rfl, k, hp⟩ := hl
  refine hret _ _ _ ⟨?_, fun b o e => k _ _ (F.keep b o e), F.above⟩ k hp
  obtain ⟨oL, es, ep, hL, hLd, hLk, hLf⟩ := F.ns
  exact ⟨oL, es, ep, k _ _ hL, hLd, hLk, hLf⟩

def wAt (code column width : Int) : Int :=
  if code = 9 then width - column % width else if code < 32 ∨ code = 127 then 2 else if 127 < code ∧ code < 160 then 4 else 1

set_option maxHeartbeats 4000000 in
theorem width_at_c (w : World) (code column width : Int) (t1 t2 t3 : Tok) (hw : 0 < width) :
    PCall w 35 [.int code t1, .int column t2, .int width t3] 1 (fun _ => True) (fun _ _ v => ∃ t, v = .int (wAt code column width) t) := by
  w_top off
  k_with_none
  k_with "BodyEnd" => (refine bodyEnd_ (by assumption) ?_)
  try (unfold PCall; k_fill; fail)
  refine' pcall_of (binds := [("code", .int code t1), ("column", .int column t2), ("width", .int width t3)]) ?k6 ?k7 ?k9 ?kB ?c2 ?c3 ?c4 ?c5 ?c6 ?_
  (case k6 => k_is)
  (case k7 => k_is)
  (case k9 => intro _; exact BindsTo.of_eq rfl)
  (case c5 => decide)
  (case kB => exact locs rfl)
  (case c2 => exact rfl)
  (case c3 => exact rfl)
  (case c4 => exact rfl)
  (case c6 => decide)
  intro p loose mean mg mb dp un gd outer A₀ base g L h₁ s B F N X T hpre hd hu
  try dsimp only
  try k_fold
  k_steps
  all_goals (refine ⟨⟨_, congrArg (fun i => Value.int i _) ?_⟩⟩; simp only [wAt]; rw [← Int.fmod_eq_emod_of_nonneg _ (Int.le_of_lt hw)]; (repeat' split) <;> omega)
end PBase

section PF1
/-- what is fresh to h is fresh to the frame's ground -/
def NewOk (h₀ : Heap) (L : Addr) (s : Heap) : Prop := ∀ l', s.get? l' = none → l' ≠ L ∧ h₀.get? l' = none
theorem NewOk.of {h₀ s : Heap} {L : Addr} {m : Str → Option Value} (F : Fr h₀ L s m) : NewOk h₀ L s := fun l' hf => by
  refine ⟨fun e => ?_, ?_⟩
  · obtain ⟨oL, _, _, hL, _⟩ := F.ns
    rw [e, hL] at hf; cases hf
  · cases q : h₀.get? l' with
    | none => rfl
    | some o' => rw [F.keep _ _ q] at hf; cases hf
theorem NewOk.more {h₀ s h' : Heap} {L l : Addr} {o : Obj} {news : List (Addr × Obj)} (M : NewOk h₀ L s) (N : News h₀ L h' news) (hf : s.get? l = none) (hg : h'.get? l = some o) : News h₀ L h' ((l, o) :: news) := by
  intro p hp
  rcases List.mem_cons.mp hp with rfl | hp
  · exact ⟨hg, M _ hf⟩
  · exact N p hp

theorem pcall_use {w : World} {f : Addr} {vs : List Value} {d : Nat} {pre : Heap → Prop} {post : Heap → Heap → Value → Prop} (C : PCall w f vs d pre post)
    {p : Program} {loose : List Str} {mean : ExcName → Option Value} {mg mb : Str → Option Value} {dp un : Nat} {gd : Option (List Code)} {cn : Str} {cs : Scope} {a : Addr} {ccd : Value} {cl : List (Str × Addr)} {outer : List Env} {A₀ : Around} {base h₀ : Heap} {L : Addr} {m : Str → Option Value} {s : Shared} {Q E : Value → Shared → Prop} {news : List (Addr × Obj)}
    (B : Below A₀ base outer h₀) (F : Fr h₀ L s.heap m) (X : (Mine.hd.heap_1_39 w.params).In h₀) (N : News h₀ L s.heap news) (T : Top p loose mean mg mb h₀) (hk : cs.kind = .function) (hpre : pre s.heap)
    (hd : dp + d < recursionLimit) (hu : un + 8 * d < cLine)
    (h : ∀ v h' tk, Fr h₀ L h' m → News h₀ L h' news → NewOk h₀ L s.heap → post s.heap h' v → Q v { s with heap := h', toks := tk }) :
    wpAny (model PySem.Challenge.rw_rg0137_01.row.prog w) (ktrTop dp un gd cn cs L a ccd cl outer) (call (.ref f) vs) Q E s :=
  C p loose mean mg mb dp un gd cn cs a ccd cl outer A₀ base h₀ L m s Q E B F X T hk hpre hd hu fun v h' tk F' S' P' => h v h' tk F' (fun q hq => ⟨S' _ _ (N q hq).1, (N q hq).2⟩) (NewOk.of F) P'

/-- a fresh list of the ints ns -/
def FreshL (g h : Heap) (ns : List Int) (v : Value) : Prop := ∃ l items n, v = .ref l ∧ g.get? l = none ∧ h.get? l = some (listOf (List.toArray items) n) ∧ IntsAre items ns

/-- a fresh pair of fresh lists of ints -/
def FreshP (g h : Heap) (a b : List Int) (v : Value) : Prop := ∃ l l1 l2 i1 n1 i2 n2 n, v = .ref l ∧ g.get? l = none ∧ h.get? l = some { cls := .type "tuple", data := .seq #[.ref l1, .ref l2] n } ∧
  (g.get? l1 = none ∧ h.get? l1 = some (listOf (List.toArray i1) n1) ∧ IntsAre i1 a) ∧ (g.get? l2 = none ∧ h.get? l2 = some (listOf (List.toArray i2) n2) ∧ IntsAre i2 b)

theorem freshL_of {g h : Heap} {L l : Addr} {news : List (Addr × Obj)} {items : List Value} {n : Nat} {ns ns' : List Int} (N : News g L h news) (hm : (l, listOf items.toArray n) ∈ news) (hi : IntsAre items ns) (e : ns = ns') : FreshL g h ns' (.ref l) :=
  ⟨l, _, n, rfl, N.fresh hm, N.get hm, by subst e; exact hi⟩

theorem freshP_of {g h : Heap} {L l l1 l2 : Addr} {news : List (Addr × Obj)} {i1 i2 : List Value} {n n1 n2 : Nat} {a b a' b' : List Int} (N : News g L h news) (hm : (l, ({ cls := .type "tuple", data := .seq #[.ref l1, .ref l2] n } : Obj)) ∈ news)
    (hm1 : (l1, listOf i1.toArray n1) ∈ news) (hm2 : (l2, listOf i2.toArray n2) ∈ news) (hi1 : IntsAre i1 a) (hi2 : IntsAre i2 b) (e1 : a = a') (e2 : b = b') : FreshP g h a' b' (.ref l) :=
  ⟨l, l1, l2, i1, n1, i2, n2, n, rfl, N.fresh hm, N.get hm, ⟨N.fresh hm1, N.get hm1, e1 ▸ hi1⟩, ⟨N.fresh hm2, N.get hm2, e2 ▸ hi2⟩⟩

/-- a fresh triple of fresh lists of ints -/
def FreshT (g h : Heap) (a b c : List Int) (v : Value) : Prop := ∃ l l1 l2 l3 i1 n1 i2 n2 i3 n3 n, v = .ref l ∧ g.get? l = none ∧ h.get? l = some { cls := .type "tuple", data := .seq #[.ref l1, .ref l2, .ref l3] n } ∧
  (g.get? l1 = none ∧ h.get? l1 = some (listOf (List.toArray i1) n1) ∧ IntsAre i1 a) ∧ (g.get? l2 = none ∧ h.get? l2 = some (listOf (List.toArray i2) n2) ∧ IntsAre i2 b) ∧ (g.get? l3 = none ∧ h.get? l3 = some (listOf (List.toArray i3) n3) ∧ IntsAre i3 c)
theorem freshT_of {g h : Heap} {L l l1 l2 l3 : Addr} {news : List (Addr × Obj)} {i1 i2 i3 : List Value} {n n1 n2 n3 : Nat} {a b c a' b' c' : List Int} (N : News g L h news) (hm : (l, ({ cls := .type "tuple", data := .seq #[.ref l1, .ref l2, .ref l3] n } : Obj)) ∈ news)
    (hm1 : (l1, listOf i1.toArray n1) ∈ news) (hm2 : (l2, listOf i2.toArray n2) ∈ news) (hm3 : (l3, listOf i3.toArray n3) ∈ news) (hi1 : IntsAre i1 a) (hi2 : IntsAre i2 b) (hi3 : IntsAre i3 c) (e1 : a = a') (e2 : b = b') (e3 : c = c') : FreshT g h a' b' c' (.ref l) :=
  ⟨l, l1, l2, l3, i1, n1, i2, n2, i3, n3, n, rfl, N.fresh hm, N.get hm, ⟨N.fresh hm1, N.get hm1, e1 ▸ hi1⟩, ⟨N.fresh hm2, N.get hm2, e2 ▸ hi2⟩, ⟨N.fresh hm3, N.get hm3, e3 ▸ hi3⟩⟩

theorem mul_one {prog : Program} {w : World} {A : Around} {E : Value → Shared → Prop} {s : Shared} {h₀ : Heap} {L : Addr} {m : Str → Option Value} {news : List (Addr × Obj)} {l : Addr} {c : Int} {tc : Tok} {k : Nat} {x : Int} {u : Tok} {Q : Value → Shared → Prop}
    (Fm : Fr h₀ L s.heap m) (N : News h₀ L s.heap news) (hl : (l, listOf #[.int c tc] k) ∈ news) (hlo : -(2 ^ 20 : Int) ≤ x) (hhi : x ≤ 2 ^ 20)
    (h : ∀ D ws h', Fr h₀ L h' m → News h₀ L h' ((D, listOf ws.toArray 0) :: news) → (∀ p ∈ news, p.1 < D) → IntsAre ws (List.replicate x.toNat c) → Q (.ref D) { s with heap := h' }) : wpAny (model prog w) A (binaryOp .Mult (.ref l) (.int x u)) Q E s := by
  refine mul_list Fm N (N.get hl) (by omega) (by omega) (by simp; omega) (fun h' F' N' => ?_)
  have e : (List.foldl (fun x1 x2 => x1 ++ x2) #[] (List.replicate (if (#[Value.int c tc] : Array Value).isEmpty = true then 0 else x.toNat) #[Value.int c tc])) = (List.replicate x.toNat (Value.int c tc)).toArray := by
    have := listMul_foldl_if (#[Value.int c tc]) x.toNat
    rw [this]
    simp
  rw [e] at N'
  refine h _ _ _ F' N' (fun p hp => Heap.lt_size (N p hp).1) ?_
  generalize x.toNat = j
  induction j with
  | zero => exact .nil
  | succ j ih => exact .cons _ _ ih

theorem wAt_pos (code col tab : Int) (hw : 0 < tab) : 0 < wAt code col tab := by
  unfold wAt
  have := Int.emod_lt_of_pos col hw
  split
  · omega
  · split
    · omega
    · split <;> omega
theorem wAt_le8 (code col tab : Int) (hw : 0 < tab) : wAt code col tab ≤ 8 + tab := by
  unfold wAt
  have := Int.emod_nonneg col (show tab ≠ 0 by omega)
  split
  · omega
  · split
    · omega
    · split <;> omega
def colBehind (column code tab : Int) : Int := column + wAt code column tab

set_option maxHeartbeats 4000000 in
theorem column_behind_c (w : World) (column code tab : Int) (t1 t2 t3 : Tok) (hw : 0 < tab) :
    PCall w 49 [.int column t1, .int code t2, .int tab t3] 2 (fun _ => True) (fun _ _ v => ∃ t, v = .int (colBehind column code tab) t ∧ 0 < colBehind column code tab - column ∧ colBehind column code tab - column ≤ 8 + tab) := by
  w_top off
  k_with_none
  k_with "BodyEnd" => (refine bodyEnd_ (by assumption) ?_)
  k_with "eval Call" => (k_here; (with_reducible show wpAny _ _ (eval (Expr.Call (Expr.Name _ _) _ _ _) _) _ _ _); k_dflt (refine Call_ ?_))
  k_with "call ref" => (k_here; k_dflt (
      refine' pcall_use (width_at_c _ _ _ _ _ _ _ ?mqhw) ?mqB ?mqF ?mqX ?mqN ?mqT ?mqk ?mqpre ?mqd ?mqu ?_
      (case mqhw => first | assumption | omega)
      (case mqB => k_asm)
      (case mqF => k_asm)
      (case mqX => k_asm)
      (case mqN => k_asm)
      (case mqT => k_asm)
      (case mqk => first | exact rfl | assumption)
      (case mqpre => trivial)
      (case mqd => ktr_room)
      (case mqu => ktr_units)
      intro v' h' tk' F' N' S' P'
      obtain ⟨t', e'⟩ := P'
      subst e'
      clear S'
      try dsimp only
      try k_sweep))
  try (unfold PCall; k_fill; fail)
  refine' pcall_of (binds := [("column", .int column t1), ("code", .int code t2), ("tab", .int tab t3)]) ?k6 ?k7 ?k9 ?kB ?c2 ?c3 ?c4 ?c5 ?c6 ?_
  (case k6 => k_is)
  (case k7 => k_is)
  (case k9 => intro _; exact BindsTo.of_eq rfl)
  (case c5 => decide)
  (case kB => exact locs rfl)
  (case c2 => exact rfl)
  (case c3 => exact rfl)
  (case c4 => exact rfl)
  (case c6 => decide)
  intro p loose mean mg mb dp un gd outer A₀ base g L h₁ s B F N X T hpre hd hu
  try dsimp only
  try k_fold
  k_steps
  all_goals (refine ⟨⟨_, congrArg (fun i => Value.int i _) (by simp only [colBehind]), ?_⟩⟩; have := wAt_pos code column tab hw; have := wAt_le8 code column tab hw; simp only [colBehind]; omega)
end PF1

section PF2
def colAt (tab : Int) (ns : List Int) : Int := ns.foldl (fun c n => colBehind c n tab) 0

theorem wAt_le (code col tab : Int) (hw : 0 < tab) (hw8 : tab ≤ 8) : wAt code col tab ≤ 8 := by
  unfold wAt
  have := Int.emod_nonneg col (show tab ≠ 0 by omega)
  split
  · omega
  · split
    · omega
    · split <;> omega
theorem colFrom_bound {tab : Int} (hw : 0 < tab) (hw8 : tab ≤ 8) : ∀ (ns : List Int) (c : Int), c ≤ ns.foldl (fun c n => colBehind c n tab) c ∧ ns.foldl (fun c n => colBehind c n tab) c ≤ c + 8 * ns.length
  | [], c => by simp
  | n :: r, c => by
    have h := colFrom_bound hw hw8 r (colBehind c n tab)
    have a := wAt_pos n c tab hw
    have b := wAt_le n c tab hw hw8
    simp only [List.foldl_cons, List.length_cons]
    unfold colBehind at h ⊢
    omega
theorem colAt_nonneg {tab : Int} (hw : 0 < tab) (hw8 : tab ≤ 8) (ns : List Int) : 0 ≤ colAt tab ns := (colFrom_bound hw hw8 ns 0).1
theorem colAt_le {tab : Int} (hw : 0 < tab) (hw8 : tab ≤ 8) (ns : List Int) : colAt tab ns ≤ 8 * ns.length := by have := (colFrom_bound hw hw8 ns 0).2; unfold colAt; omega
theorem colAt_le_of {tab : Int} (hw : 0 < tab) (hw8 : tab ≤ 8) (ns : List Int) (hb : ns.length ≤ 4096) : colAt tab ns ≤ 32768 := by have := colAt_le hw hw8 ns; omega
theorem colAt_take_le {tab : Int} (hw : 0 < tab) (hw8 : tab ≤ 8) (ns : List Int) (k : Nat) (hb : ns.length ≤ 4096) : colAt tab (ns.take k) ≤ 32768 := colAt_le_of hw hw8 _ (by rw [List.length_take]; omega)

theorem colAt_snoc (tab : Int) (ns : List Int) (n : Int) : colAt tab (ns ++ [n]) = colBehind (colAt tab ns) n tab := by simp [colAt]
set_option maxHeartbeats 4000000 in
theorem column_at_c (w : World) (l : Addr) (vs : List Value) (ns : List Int) (place tab : Int) (t2 t3 : Tok) (hw : 0 < tab) (hw8 : tab ≤ 8) (hi : IntsAre vs ns) (hp : 0 ≤ place) (hp2 : place ≤ ns.length) (hb : ns.length ≤ 4096) :
    PCall w 56 [.ref l, .int place t2, .int tab t3] 3 (fun h => h.IsList l vs.toArray) (fun _ _ v => ∃ t, v = .int (colAt tab (ns.take place.toNat)) t ∧ 0 ≤ colAt tab (ns.take place.toNat) ∧ colAt tab (ns.take place.toNat) ≤ 32768) := by
  w_top off
  k_with_none
  k_with "BodyEnd" => (refine bodyEnd_ (by assumption) ?_)
  k_with "eval Call" => (k_here; (with_reducible show wpAny _ _ (eval (Expr.Call (Expr.Name _ _) _ _ _) _) _ _ _); k_dflt (refine Call_ ?_))
  k_with "call ref" => (k_here; k_dflt (
      refine' pcall_use (column_behind_c _ _ _ _ _ _ _ ?mqw1) ?mqB ?mqF ?mqX ?mqN ?mqT ?mqk ?mqpre ?mqd ?mqu ?_
      (case mqB => k_asm)
      (case mqF => k_asm)
      (case mqX => k_asm)
      (case mqN => k_asm)
      (case mqT => k_asm)
      (case mqk => first | exact rfl | assumption)
      (case mqpre => trivial)
      (case mqw1 => first | assumption | omega)
      (case mqd => first | omega | ktr_room)
      (case mqu => first | omega | ktr_units)
      intro v' h' tk' F' N' S' P'
      obtain ⟨t', e', hd0', hd1'⟩ := P'
      subst e'
      clear S'
      try dsimp only
      try k_sweep))
  k_with "exec For Name Subscript cons nil" => (k_here; (rename Fr _ _ _ _ => lF'); (with_unfolding_all refine' For_invVF lF' ?mqk1 ?mqk2 ?_; (case mqk1 => exact rfl); (case mqk2 => exact rfl); k_whole))
  try (unfold PCall; k_fill; fail)
  refine' pcall_of (binds := [("row", .ref l), ("place", .int place t2), ("tab", .int tab t3)]) ?k6 ?k7 ?k9 ?kB ?c2 ?c3 ?c4 ?c5 ?c6 ?_
  (case k6 => k_is)
  (case k7 => k_is)
  (case k9 => intro _; exact BindsTo.of_eq rfl)
  (case c5 => decide)
  (case kB => exact locs rfl)
  (case c2 => exact rfl)
  (case c3 => exact rfl)
  (case c4 => exact rfl)
  (case c6 => decide)
  intro p loose mean mg mb dp un gd outer A₀ base g L h₁ s B F N X T hpre hd hu
  try dsimp only
  try k_fold
  k_steps
  all_goals exact ⟨⟨_, rfl, colAt_nonneg hw hw8 _, colAt_take_le hw hw8 _ _ hb⟩⟩

set_option maxHeartbeats 4000000 in
theorem row_columns_c (w : World) (l : Addr) (vs : List Value) (ns : List Int) (tab : Int) (t3 : Tok) (hw : 0 < tab) (hw8 : tab ≤ 8) (hi : IntsAre vs ns) (hb : ns.length ≤ 4096) :
    PCall w 63 [.ref l, .int tab t3] 4 (fun h => h.IsList l vs.toArray) (fun _ _ v => ∃ t, v = .int (colAt tab ns) t ∧ 0 ≤ colAt tab ns ∧ colAt tab ns ≤ 32768) := by
  w_top off
  k_with_none
  k_with "BodyEnd" => (refine bodyEnd_ (by assumption) ?_)
  k_with "eval Call" => (k_here; (with_reducible show wpAny _ _ (eval (Expr.Call (Expr.Name _ _) _ _ _) _) _ _ _); k_dflt (refine Call_ ?_))
  k_with "call ref" => (k_here; k_dflt (
      refine' pcall_use (column_behind_c _ _ _ _ _ _ _ ?mqw1) ?mqB ?mqF ?mqX ?mqN ?mqT ?mqk ?mqpre ?mqd ?mqu ?_
      (case mqB => k_asm)
      (case mqF => k_asm)
      (case mqX => k_asm)
      (case mqN => k_asm)
      (case mqT => k_asm)
      (case mqk => first | exact rfl | assumption)
      (case mqpre => trivial)
      (case mqw1 => first | assumption | omega)
      (case mqd => first | omega | ktr_room)
      (case mqu => first | omega | ktr_units)
      intro v' h' tk' F' N' S' P'
      obtain ⟨t', e', hd0', hd1'⟩ := P'
      subst e'
      clear S'
      try dsimp only
      try k_sweep))
  k_with "exec For Name Subscript cons nil" => (k_here; (rename Fr _ _ _ _ => lF'); (with_unfolding_all refine' For_invVF lF' ?mqk1 ?mqk2 ?_; (case mqk1 => exact rfl); (case mqk2 => exact rfl); k_whole))
  k_with "call ref" => (k_here; k_dflt (
      refine' pcall_use (column_at_c _ _ _ _ _ _ _ _ ?mqw1 ?mqw2 ?mqi1 ?mqs1 ?mqs2 ?mqs3) ?mqB ?mqF ?mqX ?mqN ?mqT ?mqk ?mqpre ?mqd ?mqu ?_
      (case mqB => k_asm)
      (case mqF => k_asm)
      (case mqX => k_asm)
      (case mqN => k_asm)
      (case mqT => k_asm)
      (case mqk => first | exact rfl | assumption)
      (case mqpre => kmk_list)
      (case mqw1 => first | assumption | omega)
      (case mqw2 => first | assumption | omega)
      (case mqi1 => l_ints)
      (case mqs1 => first | omega | (simp only [List.length_append, List.length_take, List.length_drop, List.length_replicate] at *; omega))
      (case mqs2 => first | omega | (simp only [List.length_append, List.length_take, List.length_drop, List.length_replicate] at *; omega))
      (case mqs3 => first | omega | (simp only [List.length_append, List.length_take, List.length_drop, List.length_replicate] at *; omega))
      (case mqd => first | omega | ktr_room)
      (case mqu => first | omega | ktr_units)
      intro v' h' tk' F' N' S' P'
      obtain ⟨t', e', hc0', hc1'⟩ := P'
      subst e'
      clear S'
      try dsimp only
      try k_sweep))
  try (unfold PCall; k_fill; fail)
  refine' pcall_of (binds := [("row", .ref l), ("tab", .int tab t3)]) ?k6 ?k7 ?k9 ?kB ?c2 ?c3 ?c4 ?c5 ?c6 ?_
  (case k6 => k_is)
  (case k7 => k_is)
  (case k9 => intro _; exact BindsTo.of_eq rfl)
  (case c5 => decide)
  (case kB => exact locs rfl)
  (case c2 => exact rfl)
  (case c3 => exact rfl)
  (case c4 => exact rfl)
  (case c6 => decide)
  intro p loose mean mg mb dp un gd outer A₀ base g L h₁ s B F N X T hpre hd hu
  try dsimp only
  try k_fold
  k_steps
  all_goals (refine ⟨⟨_, congrArg (fun i => Value.int i _) ?_, colAt_nonneg hw hw8 _, colAt_le_of hw hw8 _ hb⟩⟩; rw [Int.toNat_natCast, List.take_length])
end PF2

section PF3
/-- the first place whose column is not ahead of col -/
def placeFrom (tab col : Int) : Int → List Int → Nat
  | _, [] => 0
  | now, n :: r => if col ≤ now then 0 else placeFrom tab col (colBehind now n tab) r + 1
def placeAt (tab col : Int) (ns : List Int) : Nat := placeFrom tab col 0 ns

theorem placeFrom_le (tab col : Int) : ∀ (ns : List Int) (now : Int), placeFrom tab col now ns ≤ ns.length
  | [], _ => Nat.le_refl _
  | n :: r, now => by
    unfold placeFrom
    split
    · exact Nat.zero_le _
    · exact Nat.succ_le_succ (placeFrom_le tab col r _)
theorem placeFrom_of (tab col : Int) : ∀ (ns : List Int) (now : Int) (i : Nat), i ≤ ns.length → (∀ j, j < i → (ns.take j).foldl (fun c n => colBehind c n tab) now < col) → (i = ns.length ∨ col ≤ (ns.take i).foldl (fun c n => colBehind c n tab) now) → placeFrom tab col now ns = i
  | [], now, i, hi, _, _ => by simp at hi; simp [placeFrom, hi]
  | n :: r, now, 0, _, _, h => by
    have h' : col ≤ now := by simpa using h
    simp [placeFrom, h']
  | n :: r, now, i + 1, hi, hlt, h => by
    have h0 : now < col := by simpa using hlt 0 (Nat.succ_pos _)
    unfold placeFrom
    rw [if_neg (by omega), placeFrom_of tab col r _ i (by simpa using hi) (fun j hj => by simpa using hlt (j + 1) (by omega)) (by simpa using h)]
theorem placeAt_of {tab col : Int} {ns : List Int} {i : Nat} (hi : i ≤ ns.length) (hlt : ∀ j, j < i → colAt tab (ns.take j) < col) (h : i = ns.length ∨ col ≤ colAt tab (ns.take i)) : placeAt tab col ns = i :=
  placeFrom_of tab col ns 0 i hi hlt h

theorem take_snoc_getD (ns : List Int) (i : Nat) (h : i < ns.length) : ns.take (i + 1) = ns.take i ++ [ns.getD i 0] := by
  rw [List.take_add_one, List.getElem?_eq_getElem h, List.getD_eq_getElem?_getD, List.getElem?_eq_getElem h]; rfl
theorem place_step {tab col : Int} {ns pre : List Int} {now k : Int} (hlt : pre.length < ((ns.length : Int) - 0).toNat) (hk : k = 0 + (pre.length : Int)) (hn : ¬ col ≤ now)
    (e : now = colAt tab (ns.take pre.length)) (h : ∀ j, j < pre.length → colAt tab (ns.take j) < col) :
    colBehind now (ns.getD k.toNat 0) tab = colAt tab (ns.take (pre ++ [k]).length) ∧ ∀ j, j < (pre ++ [k]).length → colAt tab (ns.take j) < col := by
  have h1 : k.toNat = pre.length := by omega
  rw [List.length_append, List.length_singleton, take_snoc_getD _ _ (by omega), colAt_snoc, h1, e]
  refine ⟨rfl, fun j hj => ?_⟩
  rcases Nat.lt_or_ge j pre.length with q | q
  · exact h j q
  · have : j = pre.length := by omega
    subst this
    omega
set_option maxHeartbeats 4000000 in
theorem place_at_c (w : World) (l : Addr) (vs : List Value) (ns : List Int) (col tab : Int) (t2 t3 : Tok) (hw : 0 < tab) (hi : IntsAre vs ns) (hb : ns.length ≤ 4096) :
    PCall w 70 [.ref l, .int col t2, .int tab t3] 3 (fun h => h.IsList l vs.toArray) (fun _ _ v => ∃ t, v = .int (placeAt tab col ns : Nat) t ∧ placeAt tab col ns ≤ ns.length) := by
  w_top off
  k_with_none
  k_with "BodyEnd" => (refine bodyEnd_ (by assumption) ?_)
  k_with "eval Call" => (k_here; (with_reducible show wpAny _ _ (eval (Expr.Call (Expr.Name _ _) _ _ _) _) _ _ _); k_dflt (refine Call_ ?_))
  k_with "call ref" => (k_here; k_dflt (
      refine' pcall_use (column_behind_c _ _ _ _ _ _ _ ?mqw1) ?mqB ?mqF ?mqX ?mqN ?mqT ?mqk ?mqpre ?mqd ?mqu ?_
      (case mqB => k_asm)
      (case mqF => k_asm)
      (case mqX => k_asm)
      (case mqN => k_asm)
      (case mqT => k_asm)
      (case mqk => first | exact rfl | assumption)
      (case mqpre => trivial)
      (case mqw1 => first | assumption | omega)
      (case mqd => first | omega | ktr_room)
      (case mqu => first | omega | ktr_units)
      intro v' h' tk' F' N' S' P'
      obtain ⟨t', e', hd0', hd1'⟩ := P'
      subst e'
      clear S'
      try dsimp only
      try k_sweep))
  k_with "exec For Name Call cons nil" => (k_here; (rename Fr _ _ _ _ => lF'); (with_unfolding_all refine' For_invVF lF' ?mqk1 ?mqk2 ?_; (case mqk1 => exact rfl); (case mqk2 => exact rfl); k_whole))
  try (unfold PCall; k_fill; fail)
  refine' pcall_of (binds := [("row", .ref l), ("column", .int col t2), ("tab", .int tab t3)]) ?k6 ?k7 ?k9 ?kB ?c2 ?c3 ?c4 ?c5 ?c6 ?_
  (case k6 => k_is)
  (case k7 => k_is)
  (case k9 => intro _; exact BindsTo.of_eq rfl)
  (case c5 => decide)
  (case kB => exact locs rfl)
  (case c2 => exact rfl)
  (case c3 => exact rfl)
  (case c4 => exact rfl)
  (case c6 => decide)
  intro p loose mean mg mb dp un gd outer A₀ base g L h₁ s B F N X T hpre hd hu
  try dsimp only
  try k_fold
  k_with "pyIter ref" => k_state (fun pre now => now = colAt tab (ns.take pre.length) ∧ ∀ j, j < pre.length → colAt tab (ns.take j) < col) "now"
  k_with "state" => first | exact ⟨rfl, fun j hj => absurd hj (Nat.not_lt_zero _)⟩ | exact place_step (by assumption) (by assumption) (by assumption) (by assumption) (by assumption)
  k_steps
  · have q := placeAt_of (tab := tab) (col := col) (ns := ns) (i := kPre.length) (by omega) (by assumption) (.inr (by rw [← ‹_ = colAt tab (List.take kPre.length ns)›]; assumption))
    exact ⟨⟨_, congrArg (fun i => Value.int i _) (by omega), placeFrom_le _ _ _ _⟩⟩
  · have q := placeAt_of (tab := tab) (col := col) (ns := ns) (i := ns.length) (Nat.le_refl _) (fun j hj => (by assumption : ∀ j, j < (rangeKs 0 ((ns.length : Int) - 0).toNat).length → colAt tab (ns.take j) < col) j (by rw [rangeKs_length]; omega)) (.inl rfl)
    exact ⟨⟨_, congrArg (fun i => Value.int i _) (by omega), placeFrom_le _ _ _ _⟩⟩
end PF3

section PF4
def openedL (tab col : Int) (ns : List Int) : List Int :=
  let p := placeAt tab col ns
  if p = 0 ∨ ns.getD (p - 1) 0 ≠ 9 ∨ colAt tab (ns.take p) ≤ col then ns
  else ns.take (p - 1) ++ List.replicate (colAt tab (ns.take p) - colAt tab (ns.take (p - 1))).toNat 32 ++ ns.drop p

theorem openedL_length {tab : Int} (hw : 0 < tab) (hw8 : tab ≤ 8) (col : Int) (ns : List Int) : (openedL tab col ns).length ≤ ns.length + 8 := by
  unfold openedL
  simp only
  split
  · omega
  · rename_i h
    have h1 : placeAt tab col ns ≠ 0 := fun e => h (.inl e)
    have h2 : placeAt tab col ns ≤ ns.length := placeFrom_le _ _ _ _
    have e : ns.take (placeAt tab col ns) = ns.take (placeAt tab col ns - 1) ++ [ns.getD (placeAt tab col ns - 1) 0] := by
      rw [← take_snoc_getD _ _ (by omega)]; congr 1; omega
    have := wAt_le (ns.getD (placeAt tab col ns - 1) 0) (colAt tab (ns.take (placeAt tab col ns - 1))) tab hw hw8
    rw [e, colAt_snoc]
    unfold colBehind
    simp only [List.length_append, List.length_take, List.length_replicate, List.length_drop]
    omega
set_option maxHeartbeats 4000000 in
theorem opened_c (w : World) (l : Addr) (vs : List Value) (ns : List Int) (col tab : Int) (t2 t3 : Tok) (hw : 0 < tab) (hw8 : tab ≤ 8) (hi : IntsAre vs ns) (hb : ns.length ≤ 4096) :
    PCall w 77 [.ref l, .int col t2, .int tab t3] 4 (fun h => h.IsList l vs.toArray) (fun g h v => (openedL tab col ns).length ≤ ns.length + 8 ∧ ((v = .ref l ∧ openedL tab col ns = ns) ∨ FreshL g h (openedL tab col ns) v)) := by
  w_top off
  k_with_none
  k_with "BodyEnd" => (refine bodyEnd_ (by assumption) ?_)
  k_with "eval Call" => (k_here; (with_reducible show wpAny _ _ (eval (Expr.Call (Expr.Name _ _) _ _ _) _) _ _ _); k_dflt (refine Call_ ?_))
  k_with "call ref" => (k_here; k_dflt (
      refine' pcall_use (column_at_c _ _ _ _ _ _ _ _ ?mqw1 ?mqw2 ?mqi1 ?mqs1 ?mqs2 ?mqs3) ?mqB ?mqF ?mqX ?mqN ?mqT ?mqk ?mqpre ?mqd ?mqu ?_
      (case mqB => k_asm)
      (case mqF => k_asm)
      (case mqX => k_asm)
      (case mqN => k_asm)
      (case mqT => k_asm)
      (case mqk => first | exact rfl | assumption)
      (case mqpre => kmk_list)
      (case mqw1 => first | assumption | omega)
      (case mqw2 => first | assumption | omega)
      (case mqi1 => l_ints)
      (case mqs1 => first | omega | (simp only [List.length_append, List.length_take, List.length_drop, List.length_replicate] at *; omega))
      (case mqs2 => first | omega | (simp only [List.length_append, List.length_take, List.length_drop, List.length_replicate] at *; omega))
      (case mqs3 => first | omega | (simp only [List.length_append, List.length_take, List.length_drop, List.length_replicate] at *; omega))
      (case mqd => first | omega | ktr_room)
      (case mqu => first | omega | ktr_units)
      intro v' h' tk' F' N' S' P'
      obtain ⟨t', e', hc0', hc1'⟩ := P'
      subst e'
      clear S'
      try dsimp only
      try k_sweep))
  k_with "call ref" => (k_here; k_dflt (
      refine' pcall_use (place_at_c _ _ _ _ _ _ _ _ ?mqw1 ?mqi1 ?mqs1) ?mqB ?mqF ?mqX ?mqN ?mqT ?mqk ?mqpre ?mqd ?mqu ?_
      (case mqB => k_asm)
      (case mqF => k_asm)
      (case mqX => k_asm)
      (case mqN => k_asm)
      (case mqT => k_asm)
      (case mqk => first | exact rfl | assumption)
      (case mqpre => kmk_list)
      (case mqw1 => first | assumption | omega)
      (case mqi1 => l_ints)
      (case mqs1 => first | omega | (simp only [List.length_append, List.length_take, List.length_drop, List.length_replicate] at *; omega))
      (case mqd => first | omega | ktr_room)
      (case mqu => first | omega | ktr_units)
      intro v' h' tk' F' N' S' P'
      obtain ⟨t', e', hP'⟩ := P'
      subst e'
      clear S'
      try dsimp only
      try k_sweep))
  k_with "binaryOp Mult ref int" => (k_here; k_dflt (refine' mul_one ?mqF ?mqN ?mql ?mqlo ?mqhi ?_; (case mqF => k_asm); (case mqN => k_asm); (case mql => k_mem); (case mqlo => omega); (case mqhi => omega)); intro D' ws' h' F' N' l1 hI'; (try k_lt l1); (try k_sweep))
  k_with "binaryOp Add ref ref" => (k_here; (with_reducible show wpAny _ _ (binaryOp _ (Value.ref _) (Value.ref _)) _ _ _); k_dflt (refine' kmk_add_ints ?mqF ?mqN ?mqa ?mqb ?mqi ?mqj ?_ ?mqz; (case mqF => k_asm); (case mqN => k_asm); (case mqa => kmk_list); (case mqb => kmk_list); (case mqi => l_ints); (case mqj => l_ints); (case mqz => (simp only [sizeLine_eq, List.length_append, List.length_take, List.length_drop, List.length_replicate]; omega))); intro D' ws' h' F' N' l1 hI'; (try k_lt l1); (try k_sweep))
  k_with "kmk_nums" => first
      | ((with_reducible show IntsAre (slicePick _ none (some _) none).toList _); exact kmk_upto (by l_ints) (by omega))
      | ((with_reducible show IntsAre (slicePick _ (some _) none none).toList _); exact kmk_from (by l_ints) (by omega))
  try (unfold PCall; k_fill; fail)
  refine' pcall_of (binds := [("row", .ref l), ("column", .int col t2), ("tab", .int tab t3)]) ?k6 ?k7 ?k9 ?kB ?c2 ?c3 ?c4 ?c5 ?c6 ?_
  (case k6 => k_is)
  (case k7 => k_is)
  (case k9 => intro _; exact BindsTo.of_eq rfl)
  (case c5 => decide)
  (case kB => exact locs rfl)
  (case c2 => exact rfl)
  (case c3 => exact rfl)
  (case c4 => exact rfl)
  (case c6 => decide)
  intro p loose mean mg mb dp un gd outer A₀ base g L h₁ s B F N X T hpre hd hu
  try dsimp only
  try k_fold
  k_steps
  all_goals (refine ⟨openedL_length hw hw8 _ _, ?_⟩)
  all_goals (have e1 : ((placeAt tab col ns : Int) - 1).toNat = placeAt tab col ns - 1 := by omega)
  all_goals (simp only [e1, Int.toNat_natCast] at *)
  · exact .inl ⟨by first | trivial | rfl, by unfold openedL; rw [if_pos (.inl (by omega))]⟩
  · exact .inl ⟨by first | trivial | rfl, by unfold openedL; rw [if_pos (.inr (.inl (by assumption)))]⟩
  · exact .inl ⟨by first | trivial | rfl, by unfold openedL; rw [if_pos (.inr (.inr (by assumption)))]⟩
  · refine .inr (freshL_of (by assumption) (by k_mem) (by assumption) ?_)
    unfold openedL
    rw [if_neg]
    rintro (h | h | h)
    · omega
    · exact h (by assumption)
    · omega
end PF4

section PF5
def cutL (tab col : Int) (ns : List Int) : List Int × List Int :=
  let w := openedL tab col ns
  (w.take (placeAt tab col w), w.drop (placeAt tab col w))

theorem cutL_length {tab : Int} (hw : 0 < tab) (hw8 : tab ≤ 8) (col : Int) (ns : List Int) : (cutL tab col ns).1.length ≤ ns.length + 8 ∧ (cutL tab col ns).2.length ≤ ns.length + 8 := by
  have := openedL_length hw hw8 col ns
  unfold cutL
  simp only [List.length_take, List.length_drop]
  omega

set_option maxHeartbeats 4000000 in
theorem cut_at_c (w : World) (l : Addr) (vs : List Value) (ns : List Int) (col tab : Int) (t2 t3 : Tok) (hw : 0 < tab) (hw8 : tab ≤ 8) (hi : IntsAre vs ns) (hb : ns.length ≤ 4000) :
    PCall w 84 [.ref l, .int col t2, .int tab t3] 5 (fun h => h.IsList l vs.toArray) (fun g h v => FreshP g h (cutL tab col ns).1 (cutL tab col ns).2 v ∧ (cutL tab col ns).1.length ≤ ns.length + 8 ∧ (cutL tab col ns).2.length ≤ ns.length + 8) := by
  w_top off
  k_with_none
  k_with "BodyEnd" => (refine bodyEnd_ (by assumption) ?_)
  k_with "eval Call" => (k_here; (with_reducible show wpAny _ _ (eval (Expr.Call (Expr.Name _ _) _ _ _) _) _ _ _); k_dflt (refine Call_ ?_))
  k_with "call ref" => (k_here; k_dflt (
      refine' pcall_use (place_at_c _ _ _ _ _ _ _ _ ?mqw1 ?mqi1 ?mqs1) ?mqB ?mqF ?mqX ?mqN ?mqT ?mqk ?mqpre ?mqd ?mqu ?_
      (case mqB => k_asm)
      (case mqF => k_asm)
      (case mqX => k_asm)
      (case mqN => k_asm)
      (case mqT => k_asm)
      (case mqk => first | exact rfl | assumption)
      (case mqpre => kmk_list)
      (case mqw1 => first | assumption | omega)
      (case mqi1 => l_ints)
      (case mqs1 => first | omega | (simp only [List.length_append, List.length_take, List.length_drop, List.length_replicate] at *; omega))
      (case mqd => first | omega | ktr_room)
      (case mqu => first | omega | ktr_units)
      intro v' h' tk' F' N' S' P'
      obtain ⟨t', e', hP'⟩ := P'
      subst e'
      clear S'
      try dsimp only
      try k_sweep))
  k_with "call ref" => (k_here; k_dflt (
      refine' pcall_use (opened_c _ _ _ _ _ _ _ _ ?mqw1 ?mqw2 ?mqi1 ?mqs1) ?mqB ?mqF ?mqX ?mqN ?mqT ?mqk ?mqpre ?mqd ?mqu ?_
      (case mqB => k_asm)
      (case mqF => k_asm)
      (case mqX => k_asm)
      (case mqN => k_asm)
      (case mqT => k_asm)
      (case mqk => first | exact rfl | assumption)
      (case mqpre => kmk_list)
      (case mqw1 => first | assumption | omega)
      (case mqw2 => first | assumption | omega)
      (case mqi1 => l_ints)
      (case mqs1 => first | omega | (simp only [List.length_append, List.length_take, List.length_drop, List.length_replicate] at *; omega))
      (case mqd => first | omega | ktr_room)
      (case mqu => first | omega | ktr_units)
      intro v' h' tk' F' N' S' P'
      obtain ⟨hO', P'⟩ := P'
      rcases P' with ⟨e', hE'⟩ | ⟨l', i', n', e', hf', hg', hI'⟩ <;> subst e' <;> (try (replace N' := NewOk.more S' N' hf' hg'; clear hf' hg'))
      clear S'
      try dsimp only
      try k_sweep))
  k_with "kmk_nums" => first
      | ((with_reducible show IntsAre (slicePick _ none (some _) none).toList _); exact kmk_upto (by l_ints) (by omega))
      | ((with_reducible show IntsAre (slicePick _ (some _) none none).toList _); exact kmk_from (by l_ints) (by omega))
  try (unfold PCall; k_fill; fail)
  refine' pcall_of (binds := [("row", .ref l), ("column", .int col t2), ("tab", .int tab t3)]) ?k6 ?k7 ?k9 ?kB ?c2 ?c3 ?c4 ?c5 ?c6 ?_
  (case k6 => k_is)
  (case k7 => k_is)
  (case k9 => intro _; exact BindsTo.of_eq rfl)
  (case c5 => decide)
  (case kB => exact locs rfl)
  (case c2 => exact rfl)
  (case c3 => exact rfl)
  (case c4 => exact rfl)
  (case c6 => decide)
  intro p loose mean mg mb dp un gd outer A₀ base g L h₁ s B F N X T hpre hd hu
  try dsimp only
  try k_fold
  k_steps
  · refine ⟨freshP_of (by assumption) (by k_mem) (by k_mem) (by k_mem) (by assumption) (by assumption) ?_ ?_, cutL_length hw hw8 _ _⟩
    all_goals (simp only [cutL, ‹openedL tab col ns = ns›, Int.toNat_natCast])
  · refine ⟨freshP_of (by assumption) (by k_mem) (by k_mem) (by k_mem) (by assumption) (by assumption) ?_ ?_, cutL_length hw hw8 _ _⟩
    all_goals (simp only [cutL, Int.toNat_natCast])

def betweenL (tab first last : Int) (ns : List Int) : List Int × List Int × List Int :=
  let fr := cutL tab last ns
  let ai := cutL tab first fr.1
  (ai.1, ai.2, fr.2)

set_option maxHeartbeats 4000000 in
theorem cut_between_c (w : World) (l : Addr) (vs : List Value) (ns : List Int) (first last tab : Int) (t1 t2 t3 : Tok) (hw : 0 < tab) (hw8 : tab ≤ 8) (hi : IntsAre vs ns) (hb : ns.length ≤ 3900) :
    PCall w 91 [.ref l, .int first t1, .int last t2, .int tab t3] 6 (fun h => h.IsList l vs.toArray) (fun g h v => FreshT g h (betweenL tab first last ns).1 (betweenL tab first last ns).2.1 (betweenL tab first last ns).2.2 v ∧ (betweenL tab first last ns).1.length ≤ ns.length + 16 ∧ (betweenL tab first last ns).2.1.length ≤ ns.length + 16) := by
  w_top off
  k_with_none
  k_with "BodyEnd" => (refine bodyEnd_ (by assumption) ?_)
  k_with "eval Call" => (k_here; (with_reducible show wpAny _ _ (eval (Expr.Call (Expr.Name _ _) _ _ _) _) _ _ _); k_dflt (refine Call_ ?_))
  k_with "call ref" => (k_here; k_dflt (
      refine' pcall_use (place_at_c _ _ _ _ _ _ _ _ ?mqw1 ?mqi1 ?mqs1) ?mqB ?mqF ?mqX ?mqN ?mqT ?mqk ?mqpre ?mqd ?mqu ?_
      (case mqB => k_asm)
      (case mqF => k_asm)
      (case mqX => k_asm)
      (case mqN => k_asm)
      (case mqT => k_asm)
      (case mqk => first | exact rfl | assumption)
      (case mqpre => kmk_list)
      (case mqw1 => first | assumption | omega)
      (case mqi1 => l_ints)
      (case mqs1 => first | omega | (simp only [List.length_append, List.length_take, List.length_drop, List.length_replicate] at *; omega))
      (case mqd => first | omega | ktr_room)
      (case mqu => first | omega | ktr_units)
      intro v' h' tk' F' N' S' P'
      obtain ⟨t', e', hP'⟩ := P'
      subst e'
      clear S'
      try dsimp only
      try k_sweep))
  k_with "call ref" => (k_here; k_dflt (
      refine' pcall_use (opened_c _ _ _ _ _ _ _ _ ?mqw1 ?mqw2 ?mqi1 ?mqs1) ?mqB ?mqF ?mqX ?mqN ?mqT ?mqk ?mqpre ?mqd ?mqu ?_
      (case mqB => k_asm)
      (case mqF => k_asm)
      (case mqX => k_asm)
      (case mqN => k_asm)
      (case mqT => k_asm)
      (case mqk => first | exact rfl | assumption)
      (case mqpre => kmk_list)
      (case mqw1 => first | assumption | omega)
      (case mqw2 => first | assumption | omega)
      (case mqi1 => l_ints)
      (case mqs1 => first | omega | (simp only [List.length_append, List.length_take, List.length_drop, List.length_replicate] at *; omega))
      (case mqd => first | omega | ktr_room)
      (case mqu => first | omega | ktr_units)
      intro v' h' tk' F' N' S' P'
      obtain ⟨hO', P'⟩ := P'
      rcases P' with ⟨e', hE'⟩ | ⟨l', i', n', e', hf', hg', hI'⟩ <;> subst e' <;> (try (replace N' := NewOk.more S' N' hf' hg'; clear hf' hg'))
      clear S'
      try dsimp only
      try k_sweep))
  k_with "kmk_nums" => first
      | ((with_reducible show IntsAre (slicePick _ none (some _) none).toList _); exact kmk_upto (by l_ints) (by omega))
      | ((with_reducible show IntsAre (slicePick _ (some _) none none).toList _); exact kmk_from (by l_ints) (by omega))
  k_with "call ref" => (k_here; k_dflt (
      refine' pcall_use (cut_at_c _ _ _ _ _ _ _ _ ?mqw1 ?mqw2 ?mqi1 ?mqs1) ?mqB ?mqF ?mqX ?mqN ?mqT ?mqk ?mqpre ?mqd ?mqu ?_
      (case mqB => k_asm)
      (case mqF => k_asm)
      (case mqX => k_asm)
      (case mqN => k_asm)
      (case mqT => k_asm)
      (case mqk => first | exact rfl | assumption)
      (case mqpre => kmk_list)
      (case mqw1 => first | assumption | omega)
      (case mqw2 => first | assumption | omega)
      (case mqi1 => l_ints)
      (case mqs1 => first | omega | (simp only [List.length_append, List.length_take, List.length_drop, List.length_replicate] at *; omega))
      (case mqd => first | omega | ktr_room)
      (case mqu => first | omega | ktr_units)
      intro v' h' tk' F' N' S' P'
      obtain ⟨⟨l', l1', l2', i1', n1', i2', n2', n', e', hf', hg', ⟨hf1', hg1', hI1'⟩, ⟨hf2', hg2', hI2'⟩⟩, hc1', hc2'⟩ := P'
      subst e'
      replace N' := NewOk.more S' (NewOk.more S' (NewOk.more S' N' hf1' hg1') hf2' hg2') hf' hg'
      clear hf' hg' hf1' hf2' hg1' hg2'
      clear S'
      try dsimp only
      try k_sweep))
  try (unfold PCall; k_fill; fail)
  refine' pcall_of (binds := [("row", .ref l), ("first", .int first t1), ("last", .int last t2), ("tab", .int tab t3)]) ?k6 ?k7 ?k9 ?kB ?c2 ?c3 ?c4 ?c5 ?c6 ?_
  (case k6 => k_is)
  (case k7 => k_is)
  (case k9 => intro _; exact BindsTo.of_eq rfl)
  (case c5 => decide)
  (case kB => exact locs rfl)
  (case c2 => exact rfl)
  (case c3 => exact rfl)
  (case c4 => exact rfl)
  (case c6 => decide)
  intro p loose mean mg mb dp un gd outer A₀ base g L h₁ s B F N X T hpre hd hu
  try dsimp only
  try k_fold
  k_steps
  refine ⟨freshT_of (by assumption) (by k_mem) (by k_mem) (by k_mem) (by k_mem) (by assumption) (by assumption) (by assumption) rfl rfl rfl, ?_, ?_⟩
  all_goals (simp only [betweenL]; omega)
end PF5

section PF6
theorem extend_ints {prog : Program} {w : World} {A : Around} {E : Value → Shared → Prop} {s : Shared} {h₀ : Heap} {L D b : Addr} {m : Str → Option Value} {news news' : List (Addr × Obj)} {vs ws : List Value} {ns ms : List Int} {n n2 : Nat} {Q : Value → Shared → Prop}
    (F : Fr h₀ L s.heap m) (N : News h₀ L s.heap news) (hb : (b, listOf ws.toArray n2) ∈ news) (U : Upd D (listOf vs.toArray n) (listOf (vs ++ ws).toArray (n + 1)) news news') (hi : IntsAre vs ns) (hj : IntsAre ws ms) (hne : ms.length ≠ 0) (hz : ns.length + ms.length ≤ 2 ^ 20)
    (h : ∀ us h', Fr h₀ L h' m → us = vs ++ ws → News h₀ L h' news' → IntsAre us (ns ++ ms) → Q .none { s with heap := h' }) : wpAny (model prog w) A (call (.builtin "list.extend") [.ref D, .ref b]) Q E s := by
  have l1 := hi.length
  have l2 := hj.length
  refine kl_extend (its := vs.toArray) (its2 := ws.toArray) F N hb rfl (by simpa [l2] using hne) U ?_ ?_ ?_ (fun h' F' N' => h _ h' F' rfl N' (IntsAre.append hi hj))
  · simp [Builtin.List.listTooLong, sizeLine]; omega
  · simp [sizeLine]; omega
  · simp [sizeLine]; omega
/-- the row's ints as they are shown from a column on -/
def spreadL (tab : Int) : Int → List Int → List Int
  | _, [] => []
  | now, n :: r => (if n = 9 then List.replicate (colBehind now n tab - now).toNat 32 else [n]) ++ spreadL tab (colBehind now n tab) r
def colFrom (tab c : Int) (ns : List Int) : Int := ns.foldl (fun c n => colBehind c n tab) c
theorem colFrom_snoc (tab c : Int) (ns : List Int) (n : Int) : colFrom tab c (ns ++ [n]) = colBehind (colFrom tab c ns) n tab := by simp [colFrom]
theorem spreadL_snoc (tab : Int) (n : Int) : ∀ (ns : List Int) (c : Int), spreadL tab c (ns ++ [n]) = spreadL tab c ns ++ (if n = 9 then List.replicate (colBehind (colFrom tab c ns) n tab - colFrom tab c ns).toNat 32 else [n])
  | [], c => by simp [spreadL, colFrom]
  | m :: r, c => by simp [spreadL, spreadL_snoc tab n r, colFrom, List.append_assoc]

theorem spread_step9 {tab col : Int} {pre found : List Int} {now k : Int} (h : now = colFrom tab col pre ∧ found = spreadL tab col pre ∧ found.length ≤ 16 * pre.length) (h0 : tab ≤ 8) (h1 : colBehind now k tab - now ≤ 8 + tab) (hk : k = 9) :
    colBehind now k tab = colFrom tab col (pre ++ [k]) ∧ found ++ List.replicate (colBehind now k tab - now).toNat 32 = spreadL tab col (pre ++ [k]) ∧ (found ++ List.replicate (colBehind now k tab - now).toNat 32).length ≤ 16 * (pre ++ [k]).length := by
  obtain ⟨e, e', hl⟩ := h
  refine ⟨by rw [colFrom_snoc, e], by rw [spreadL_snoc, if_pos hk, ← e', ← e], ?_⟩
  simp only [List.length_append, List.length_replicate, List.length_singleton]
  omega
theorem spread_stepN {tab col : Int} {pre found : List Int} {now k : Int} (h : now = colFrom tab col pre ∧ found = spreadL tab col pre ∧ found.length ≤ 16 * pre.length) (hk : k ≠ 9) :
    colBehind now k tab = colFrom tab col (pre ++ [k]) ∧ found ++ [k] = spreadL tab col (pre ++ [k]) ∧ (found ++ [k]).length ≤ 16 * (pre ++ [k]).length := by
  obtain ⟨e, e', hl⟩ := h
  refine ⟨by rw [colFrom_snoc, e], by rw [spreadL_snoc, if_neg hk, ← e'], ?_⟩
  simp only [List.length_append, List.length_singleton]
  omega

set_option maxHeartbeats 4000000 in
theorem spread_c (w : World) (l : Addr) (vs : List Value) (ns : List Int) (col tab : Int) (t2 t3 : Tok) (hw : 0 < tab) (hw8 : tab ≤ 8) (hi : IntsAre vs ns) (hb : ns.length ≤ 4000) :
    PCall w 98 [.ref l, .int col t2, .int tab t3] 4 (fun h => h.IsList l vs.toArray) (fun g h v => FreshL g h (spreadL tab col ns) v ∧ (spreadL tab col ns).length ≤ 16 * ns.length) := by
  w_top off
  k_with_none
  k_with "BodyEnd" => (refine bodyEnd_ (by assumption) ?_)
  k_with "eval Call" => (k_here; (with_reducible show wpAny _ _ (eval (Expr.Call (Expr.Name _ _) _ _ _) _) _ _ _); k_dflt (refine Call_ ?_))
  k_with "binaryOp Mult ref int" => (k_here; k_dflt (refine' mul_one ?mqF ?mqN ?mql ?mqlo ?mqhi ?_; (case mqF => k_asm); (case mqN => k_asm); (case mql => k_mem); (case mqlo => omega); (case mqhi => omega)); intro D' ws' h' F' N' l1 hI'; (try k_lt l1); (try k_sweep))
  k_with "call ref" => (k_here; k_dflt (
      refine' pcall_use (column_behind_c _ _ _ _ _ _ _ ?mqw1) ?mqB ?mqF ?mqX ?mqN ?mqT ?mqk ?mqpre ?mqd ?mqu ?_
      (case mqB => k_asm)
      (case mqF => k_asm)
      (case mqX => k_asm)
      (case mqN => k_asm)
      (case mqT => k_asm)
      (case mqk => first | exact rfl | assumption)
      (case mqpre => trivial)
      (case mqw1 => first | assumption | omega)
      (case mqd => first | omega | ktr_room)
      (case mqu => first | omega | ktr_units)
      intro v' h' tk' F' N' S' P'
      obtain ⟨t', e', hd0', hd1'⟩ := P'
      subst e'
      clear S'
      try dsimp only
      try k_sweep))
  k_with "call builtin:list.extend" => (k_here; k_dflt (refine' extend_ints ?mqF ?mqN ?mqb ?mqU ?mqi ?mqj ?mqne ?mqz ?_; (case mqF => k_asm); (case mqN => k_asm); (case mqb => k_mem); (case mqU => k_upd); (case mqi => l_ints); (case mqj => l_ints); (case mqne => (rw [List.length_replicate]; omega)); (case mqz => (rw [List.length_replicate]; omega))); intro us' h' F' e' N' hI'; rw [← e'] at N'; clear e'; (try k_sweep))
  try (unfold PCall; k_fill; fail)
  refine' pcall_of (binds := [("codes", .ref l), ("column", .int col t2), ("tab", .int tab t3)]) ?k6 ?k7 ?k9 ?kB ?c2 ?c3 ?c4 ?c5 ?c6 ?_
  (case k6 => k_is)
  (case k7 => k_is)
  (case k9 => intro _; exact BindsTo.of_eq rfl)
  (case c5 => decide)
  (case kB => exact locs rfl)
  (case c2 => exact rfl)
  (case c3 => exact rfl)
  (case c4 => exact rfl)
  (case c6 => decide)
  intro p loose mean mg mb dp un gd outer A₀ base g L h₁ s B F N X T hpre hd hu
  try dsimp only
  try k_fold
  k_with "pyIter ref" => k_state (fun pre now found => now = colFrom tab col pre ∧ found = spreadL tab col pre ∧ found.length ≤ 16 * pre.length) "now" "found"
  k_with "state" => first | exact ⟨rfl, rfl, Nat.zero_le _⟩ | exact spread_step9 ⟨by assumption, by assumption, by assumption⟩ (by assumption) (by assumption) (by assumption) | exact spread_stepN ⟨by assumption, by assumption, by assumption⟩ (by assumption)
  k_steps
  refine ⟨freshL_of (by assumption) (by k_mem) (by assumption) (by assumption), by rw [← ‹_ = spreadL tab col ns›]; assumption⟩
end PF6

section PF7
theorem fold_ge {tab : Int} (hw : 0 < tab) : ∀ (ns : List Int) (c : Int), c ≤ ns.foldl (fun c n => colBehind c n tab) c
  | [], c => by simp
  | n :: r, c => by
    have h := fold_ge hw r (colBehind c n tab)
    have a := wAt_pos n c tab hw
    simp only [List.foldl_cons]
    unfold colBehind at h ⊢
    omega
theorem max_bound {last F c : Int} (h : c ≤ F) (h0 : 0 ≤ c) (hl : last ≤ 1000) : (if last - F > 0 then last - F else 0) ≤ 2 ^ 20 := by split <;> omega
theorem mul_oneB {prog : Program} {w : World} {A : Around} {E : Value → Shared → Prop} {s : Shared} {h₀ : Heap} {L : Addr} {m : Str → Option Value} {news : List (Addr × Obj)} {l : Addr} {c : Int} {tc : Tok} {k : Nat} {x : Int} {u : Tok} {Q : Value → Shared → Prop}
    (Fm : Fr h₀ L s.heap m) (N : News h₀ L s.heap news) (hl : (l, listOf #[.int c tc] k) ∈ news) (hlo : -(2 ^ 20 : Int) ≤ x) (hhi : x ≤ 2 ^ 20)
    (h : ∀ D ws h', Fr h₀ L h' m → News h₀ L h' ((D, listOf ws.toArray 0) :: news) → (∀ p ∈ news, p.1 < D) → IntsAre ws (List.replicate x.toNat c) → x ≤ 2 ^ 20 → Q (.ref D) { s with heap := h' }) : wpAny (model prog w) A (binaryOp .Mult (.ref l) (.int x u)) Q E s :=
  mul_one Fm N hl hlo hhi fun D ws h' F' N' l1 hI => h D ws h' F' N' l1 hI hhi
theorem max_if (a b : Int) : max a b = if b > a then b else a := by rw [Int.max_def]; split <;> split <;> omega
def startL (tab first last : Int) (ns : List Int) : Int := max first (colAt tab (betweenL tab first last ns).1)
def endL (tab first last : Int) (ns : List Int) : Int := colFrom tab (startL tab first last ns) (betweenL tab first last ns).2.1
def extractedL (tab first last : Int) (ns : List Int) : List Int :=
  List.replicate (startL tab first last ns - first).toNat 32 ++ spreadL tab (startL tab first last ns) (betweenL tab first last ns).2.1 ++ List.replicate (max 0 (last - endL tab first last ns)).toNat 32

set_option maxHeartbeats 4000000 in
theorem extracted_c (w : World) (l : Addr) (vs : List Value) (ns : List Int) (first last tab : Int) (t1 t2 t3 : Tok) (hw : 0 < tab) (hw8 : tab ≤ 8) (hi : IntsAre vs ns) (hb : ns.length ≤ 3800) (hf0 : 0 ≤ first) (hf1 : first ≤ 1000) (hl0 : 0 ≤ last) (hl1 : last ≤ 1000) :
    PCall w 105 [.ref l, .int first t1, .int last t2, .int tab t3] 7 (fun h => h.IsList l vs.toArray) (fun g h v => FreshL g h (extractedL tab first last ns) v) := by
  w_top off
  k_with_none
  k_with "BodyEnd" => (refine bodyEnd_ (by assumption) ?_)
  k_with "eval Call" => (k_here; (with_reducible show wpAny _ _ (eval (Expr.Call (Expr.Name _ _) _ _ _) _) _ _ _); k_dflt (refine Call_ ?_))
  k_with "binaryOp Mult ref int" => (k_here; k_dflt (refine' mul_oneB ?mqF ?mqN ?mql ?mqlo ?mqhi ?_; (case mqF => k_asm); (case mqN => k_asm); (case mql => k_mem); (case mqlo => omega); (case mqhi => first | omega | exact max_bound (fold_ge (by assumption) _ _) (by omega) (by assumption))); intro D' ws' h' F' N' l1 hI' hX'; (try k_lt l1); (try k_sweep))
  k_with "binaryOp Add ref ref" => (k_here; (with_reducible show wpAny _ _ (binaryOp _ (Value.ref _) (Value.ref _)) _ _ _); k_dflt (refine' kmk_add_ints ?mqF ?mqN ?mqa ?mqb ?mqi ?mqj ?_ ?mqz; (case mqF => k_asm); (case mqN => k_asm); (case mqa => kmk_list); (case mqb => kmk_list); (case mqi => l_ints); (case mqj => l_ints); (case mqz => (simp only [sizeLine_eq, List.length_append, List.length_take, List.length_drop, List.length_replicate]; omega))); intro D' ws' h' F' N' l1 hI'; (try k_lt l1); (try k_sweep))
  k_with "call ref" => (k_here; k_dflt (
      refine' pcall_use (column_behind_c _ _ _ _ _ _ _ ?mqw1) ?mqB ?mqF ?mqX ?mqN ?mqT ?mqk ?mqpre ?mqd ?mqu ?_
      (case mqB => k_asm)
      (case mqF => k_asm)
      (case mqX => k_asm)
      (case mqN => k_asm)
      (case mqT => k_asm)
      (case mqk => first | exact rfl | assumption)
      (case mqpre => trivial)
      (case mqw1 => first | assumption | omega)
      (case mqd => first | omega | ktr_room)
      (case mqu => first | omega | ktr_units)
      intro v' h' tk' F' N' S' P'
      obtain ⟨t', e', hd0', hd1'⟩ := P'
      subst e'
      clear S'
      try dsimp only
      try k_sweep))
  k_with "call ref" => (k_here; k_dflt (
      refine' pcall_use (cut_between_c _ _ _ _ _ _ _ _ _ _ ?mqw1 ?mqw2 ?mqi1 ?mqs1) ?mqB ?mqF ?mqX ?mqN ?mqT ?mqk ?mqpre ?mqd ?mqu ?_
      (case mqB => k_asm)
      (case mqF => k_asm)
      (case mqX => k_asm)
      (case mqN => k_asm)
      (case mqT => k_asm)
      (case mqk => first | exact rfl | assumption)
      (case mqpre => kmk_list)
      (case mqw1 => first | assumption | omega)
      (case mqw2 => first | assumption | omega)
      (case mqi1 => l_ints)
      (case mqs1 => first | omega | (simp only [List.length_append, List.length_take, List.length_drop, List.length_replicate] at *; omega))
      (case mqd => first | omega | ktr_room)
      (case mqu => first | omega | ktr_units)
      intro v' h' tk' F' N' S' P'
      obtain ⟨⟨l', l1', l2', l3', i1', n1', i2', n2', i3', n3', n', e', hf', hg', ⟨hf1', hg1', hI1'⟩, ⟨hf2', hg2', hI2'⟩, ⟨hf3', hg3', hI3'⟩⟩, hc1', hc2'⟩ := P'
      subst e'
      replace N' := NewOk.more S' (NewOk.more S' (NewOk.more S' (NewOk.more S' N' hf1' hg1') hf2' hg2') hf3' hg3') hf' hg'
      clear hf' hg' hf1' hf2' hf3' hg1' hg2' hg3'
      clear S'
      try dsimp only
      try k_sweep))
  k_with "call ref" => (k_here; k_dflt (
      refine' pcall_use (row_columns_c _ _ _ _ _ _ ?mqw1 ?mqw2 ?mqi1 ?mqs1) ?mqB ?mqF ?mqX ?mqN ?mqT ?mqk ?mqpre ?mqd ?mqu ?_
      (case mqB => k_asm)
      (case mqF => k_asm)
      (case mqX => k_asm)
      (case mqN => k_asm)
      (case mqT => k_asm)
      (case mqk => first | exact rfl | assumption)
      (case mqpre => kmk_list)
      (case mqw1 => first | assumption | omega)
      (case mqw2 => first | assumption | omega)
      (case mqi1 => l_ints)
      (case mqs1 => first | omega | (simp only [List.length_append, List.length_take, List.length_drop, List.length_replicate] at *; omega))
      (case mqd => first | omega | ktr_room)
      (case mqu => first | omega | ktr_units)
      intro v' h' tk' F' N' S' P'
      obtain ⟨t', e', hc0', hc1'⟩ := P'
      subst e'
      clear S'
      try dsimp only
      try k_sweep))
  k_with "call ref" => (k_here; k_dflt (
      refine' pcall_use (spread_c _ _ _ _ _ _ _ _ ?mqw1 ?mqw2 ?mqi1 ?mqs1) ?mqB ?mqF ?mqX ?mqN ?mqT ?mqk ?mqpre ?mqd ?mqu ?_
      (case mqB => k_asm)
      (case mqF => k_asm)
      (case mqX => k_asm)
      (case mqN => k_asm)
      (case mqT => k_asm)
      (case mqk => first | exact rfl | assumption)
      (case mqpre => kmk_list)
      (case mqw1 => first | assumption | omega)
      (case mqw2 => first | assumption | omega)
      (case mqi1 => l_ints)
      (case mqs1 => first | omega | (simp only [List.length_append, List.length_take, List.length_drop, List.length_replicate] at *; omega))
      (case mqd => first | omega | ktr_room)
      (case mqu => first | omega | ktr_units)
      intro v' h' tk' F' N' S' P'
      obtain ⟨⟨l', i', n', e', hf', hg', hI'⟩, hc'⟩ := P'
      subst e'
      replace N' := NewOk.more S' N' hf' hg'
      clear hf' hg'
      clear S'
      try dsimp only
      try k_sweep))
  try (unfold PCall; k_fill; fail)
  refine' pcall_of (binds := [("row", .ref l), ("first", .int first t1), ("last", .int last t2), ("tab", .int tab t3)]) ?k6 ?k7 ?k9 ?kB ?c2 ?c3 ?c4 ?c5 ?c6 ?_
  (case k6 => k_is)
  (case k7 => k_is)
  (case k9 => intro _; exact BindsTo.of_eq rfl)
  (case c5 => decide)
  (case kB => exact locs rfl)
  (case c2 => exact rfl)
  (case c3 => exact rfl)
  (case c4 => exact rfl)
  (case c6 => decide)
  intro p loose mean mg mb dp un gd outer A₀ base g L h₁ s B F N X T hpre hd hu
  try dsimp only
  try k_fold
  k_steps
  exact ⟨freshL_of (by assumption) (by k_mem) (by assumption) (by simp only [extractedL, startL, endL, colFrom, max_if])⟩
end PF7

section PF8
theorem pcall_ofC {w : World} {f : Addr} {vs : List Value} {d : Nat} {pre : Heap → Prop} {post : Heap → Heap → Value → Prop}
    {name qual : Str} {params : Arguments} {body : List Stmt} {scope : Scope} {dV kV doc pm cdv ct oc : Value} {an od : Option Addr} {osl : Array (Option Value)} {binds : List (Str × Value)}
    (ho : (Mine.hd.heap_1_39 w.params).lookup f = some ⟨oc, od, .func (fnOf name qual params body scope dV kV doc pm an cdv ct), osl⟩) (hcd : codeIn (Mine.hd.heap_1_39 w.params) cdv qual = true)
    (hbind : ∀ s, BindsTo s (fnOf name qual params body scope dV kV doc pm an cdv ct) ⟨vs, []⟩ binds)
    (hkind : (binds.all fun y => scope.names.lookup y.1 == some .local || scope.names.lookup y.1 == some .cell) = true)
    (hnd : ((cellsFrom 0 scope.names []).map (·.1)).Nodup) (mL mC : Str → Option Value) (hmL : ∀ L, bindL (envOfC qual scope L f cdv).kindOf binds (fun _ => none) = mL) (hmC : ∀ L, bindC (envOfC qual scope L f cdv).kindOf binds (fun _ => none) = mC)
    (hco : scope.isCoroutine = false) (hgen : scope.isGenerator = false) (hk : scope.kind = .function) (hd1 : 1 ≤ d)
    (h : ∀ (p : Program) (loose : List Str) (mean : ExcName → Option Value) (mg mb : Str → Option Value) (dp un : Nat) (gd : Option (List Code)) (outer : List Env) (A₀ : Around) (base g : Heap) (L : Addr) (h₁ : Heap) (tk : Nat) (cells : List (Addr × Obj)) (s : Shared),
      Below A₀ base outer g → Fr g L h₁ mL → News g L h₁ cells →
      CellsAre mC (cellsFrom (L + 1) scope.names []) cells → (Mine.hd.heap_1_39 w.params).In g → Top p loose mean mg mb g → pre g →
      dp + d < recursionLimit + 1 → un + 8 * d < cLine + 3 →
      wpAny (model PySem.Challenge.rw_rg0137_01.row.prog w) (ktrTop dp un gd qual scope L f cdv (cellsFrom (L + 1) scope.names []) outer) (execs body (envOfC qual scope L f cdv))
        (fun fl s' => BodyEnd g s post (match fl with | .ret v => v | _ => .none) s') (fun _ _ => False) { s with heap := h₁, toks := tk }) :
    PCall w f vs d pre post := by
  intro p loose mean mg mb dp un gd cn cs a ccd cl outer A₀ base h₀ L m s Q E B F X T hck hpre hdp hun hret
  refine wpAny_call ?_
  have N : News h₀ L s.heap [] := News.nil
  obtain ⟨FG, BG, st, lv⟩ := groundX (A := ktrTop dp un gd cn cs L a ccd cl outer) (R := fun r s' => match r with | .ok (.ret v) => Q v s' | .ok _ => False | .error e => E e s') B F N rfl rfl hck
  refine codeAny_call_function (fd := fnOf name qual params body scope dV kV doc pm an cdv ct) (body := body) ?_ ((X.keeps F.keep) _ _ ho) rfl hco hgen rfl (codeRec_of (X.keeps F.keep) hcd) (hbind s _ _ _ _ ?_)
  · show dp < recursionLimit
    omega
  refine wpAny_newFunctionEnv_cells hk (kindsX hkind _) fun env' he s' x => ?_
  subst he
  refine ⟨(T.nolimit.keeps F.keep).keeps x.toInCall.keep, codeAny_func ?_⟩
  obtain ⟨h₁, tk, rfl, _⟩ := x.done
  have hk₁ := x.toInCall.keep
  obtain ⟨cells, NC, Y⟩ := Cl.news (h₀ := s.heap) (Nat.le_refl _) fun n c hm => ⟨x.cell n c (lookup_of_mem_nodup (cellsFrom_names scope.names 0 (s.heap.objs.size + 1) [] [] rfl ▸ hnd) hm), x.above n c hm⟩
  refine wpAny_mono (h p loose mean mg mb (dp + 1) (un + 3) gd _ _ base s.heap s.heap.objs.size h₁ tk cells s BG ⟨hmL _ ▸ x.toInCall.ns, hk₁, Nat.le_refl _⟩ NC (hmC _ ▸ Y) (X.keeps F.keep) (T.keeps F.keep) hpre (by omega) (by omega)) (fun fl s' hl => ?_) fun _ _ y => y.elim
  obtain ⟨h', tk, rfl, k, hp⟩ := hl
  refine hret _ _ _ ⟨?_, fun b o e => k _ _ (F.keep b o e), F.above⟩ k hp
  obtain ⟨oL, es, ep, hL, hLd, hLk, hLf⟩ := F.ns
  exact ⟨oL, es, ep, k _ _ hL, hLd, hLk, hLf⟩

def lawPlace (ns cs : List Int) (col : Int) : Nat := ((cs.take ns.length).filter (fun c => decide (c < col))).length
def lawCutL (ns cs : List Int) (col : Int) : List Int × List Int :=
  let p := lawPlace ns cs col
  if 0 < p ∧ ns.getD (p - 1) 0 = 9 ∧ cs.getD p 0 > col then
    (ns.take (p - 1) ++ List.replicate (col - cs.getD (p - 1) 0).toNat 32, List.replicate (cs.getD p 0 - cs.getD (p - 1) 0 - (col - cs.getD (p - 1) 0)).toNat 32 ++ ns.drop p)
  else (ns.take p, ns.drop p)

theorem foldl_filt (col : Int) : ∀ (cs l : List Int), (cs.foldl (fun l' k' => if k' < col then l' ++ [1] else l') l).length = l.length + (cs.filter (fun c => decide (c < col))).length
  | [], l => by simp
  | c :: r, l => by
    rw [List.foldl_cons, foldl_filt col r, List.filter_cons]
    by_cases h : c < col <;> simp [h] <;> omega
theorem foldl_filt_eq (col : Int) (cs : List Int) : (cs.foldl (fun l' k' => if k' < col then l' ++ [1] else l') ([] : List Int)).length = (cs.filter (fun c => decide (c < col))).length := by
  rw [foldl_filt]; simp
theorem filt_fit {col : Int} {cs : List Int} {n : Nat} (h : n ≤ 4000) : (((cs.take n).foldl (fun l' k' => if k' < col then l' ++ [1] else l') ([] : List Int)).length : Int) < 2 ^ 63 := by
  rw [foldl_filt_eq]
  have := List.length_filter_le (fun c => decide (c < col)) (cs.take n)
  rw [List.length_take] at this
  omega
theorem lawPlace_le (ns cs : List Int) (col : Int) : lawPlace ns cs col ≤ ns.length := by
  unfold lawPlace
  have := List.length_filter_le (fun c => decide (c < col)) (cs.take ns.length)
  rw [List.length_take] at this
  omega
theorem getD_bound {cs : List Int} (h : ∀ c ∈ cs, 0 ≤ c ∧ c ≤ 32768) (i : Nat) : 0 ≤ cs.getD i 0 ∧ cs.getD i 0 ≤ 32768 := by
  rw [List.getD_eq_getElem?_getD]
  cases e : cs[i]? with
  | none => simp
  | some c => simpa using h c (List.mem_of_getElem? e)
theorem len_filt {prog : Program} {w : World} {A : Around} {E : Value → Shared → Prop} {s : Shared} {h₀ : Heap} {L l : Addr} {news : List (Addr × Obj)} {us : List Value} {c : Nat} {ns cs : List Int} {col : Int} {Q : Value → Shared → Prop} (N : News h₀ L s.heap news) (hm : (l, listOf us.toArray c) ∈ news)
    (hi : IntsAre us ((cs.take (ns.length : Int).toNat).foldl (fun l' k' => if k' < col then l' ++ [1] else l') ([] : List Int))) (hn : ns.length ≤ 4000) (hcs : ∀ c ∈ cs, 0 ≤ c ∧ c ≤ 32768)
    (h : ∀ q : Nat, q = lawPlace ns cs col → q ≤ ns.length → (0 ≤ cs.getD (q : Int).toNat 0 ∧ cs.getD (q : Int).toNat 0 ≤ 32768) → (0 ≤ cs.getD ((q : Int) - 1).toNat 0 ∧ cs.getD ((q : Int) - 1).toNat 0 ≤ 32768) → Q (.int (q : Nat) (s.toks + 1)) { s with toks := s.toks + 1 + 1 }) : wpAny (model prog w) A (call (.builtin "len") [.ref l]) Q E s := by
  have e := hi.length
  rw [Int.toNat_natCast, foldl_filt_eq] at e
  exact kst_len N hm (k := lawPlace ns cs col) e (by have := lawPlace_le ns cs col; omega) (h _ rfl (lawPlace_le ns cs col) (getD_bound hcs _) (getD_bound hcs _))
theorem lawCut_pos {ns cs : List Int} {col : Int} {q : Nat} (e : q = lawPlace ns cs col) (h0 : 0 < (q : Int)) (h1 : ns.getD ((q : Int) - 1).toNat 0 = 9) (h2 : col < cs.getD (q : Int).toNat 0) :
    lawCutL ns cs col = (ns.take ((q : Int) - 1).toNat ++ List.replicate (col - cs.getD ((q : Int) - 1).toNat 0).toNat 32, List.replicate (cs.getD (q : Int).toNat 0 - cs.getD ((q : Int) - 1).toNat 0 - (col - cs.getD ((q : Int) - 1).toNat 0)).toNat 32 ++ ns.drop (q : Int).toNat) := by
  have e1 : ((q : Int) - 1).toNat = q - 1 := by omega
  rw [e1] at h1 ⊢
  rw [Int.toNat_natCast] at h2 ⊢
  unfold lawCutL
  rw [← e, if_pos ⟨by omega, h1, h2⟩]
theorem lawCut_neg {ns cs : List Int} {col : Int} {q : Nat} (e : q = lawPlace ns cs col) (h : ¬ (0 < (q : Int) ∧ ns.getD ((q : Int) - 1).toNat 0 = 9 ∧ col < cs.getD (q : Int).toNat 0)) :
    lawCutL ns cs col = (ns.take (q : Int).toNat, ns.drop (q : Int).toNat) := by
  unfold lawCutL
  rw [← e, Int.toNat_natCast, if_neg]
  intro ⟨a, b, c⟩
  refine h ⟨by omega, ?_, by rw [Int.toNat_natCast]; exact c⟩
  rw [show ((q : Int) - 1).toNat = q - 1 by omega]
  exact b
set_option maxHeartbeats 4000000 in
theorem law_cut_c (w : World) (l lc : Addr) (vs us : List Value) (ns cs : List Int) (col tab : Int) (t2 t3 : Tok) (hi : IntsAre vs ns) (hj : IntsAre us cs) (hb : ns.length ≤ 3800) (hl : cs.length = ns.length + 1) (h0 : 0 ≤ col) (h1 : col ≤ 32768) (hcs : ∀ c ∈ cs, 0 ≤ c ∧ c ≤ 32768) :
    PCall w 501 [.ref l, .ref lc, .int col t2, .int tab t3] 2 (fun h => h.IsList l vs.toArray ∧ h.IsList lc us.toArray) (fun g h v => FreshP g h (lawCutL ns cs col).1 (lawCutL ns cs col).2 v) := by
  w_top off
  k_with_none
  k_with "BodyEnd" => (refine bodyEnd_ (by assumption) ?_)
  k_with "eval ListComp" => (k_here; k_dflt (refine LCt.ListComp_T (F₀ := by k_asm) (by with_unfolding_all rfl) (by decide) (by rfl) (by decide) (by rfl) ?_))
  k_with "CompSrcT" => (k_here; k_dflt (
      refine LCt.CompSrcT.ledger (by rfl) (by k_asm) (by k_asm) (by k_mem) (by kcf_size) ?_; intro g'; (refine' kci_list _ (by l_ints) (fun k' t' I' oI' C' oC' D' m' ys' l' h' tk' E' hk' hI' hC' hx' F' N' off' ne' => ?_) ?_ ?_); (all_goals (try (simp only [LCg.Off3, and_true] at off'))); (all_goals (try ((show KPfMark → _); intro hMark'))); kcf_last))
  k_with "call builtin:len" => (k_here; (with_reducible show wpAny _ _ (call (Value.builtin _) [Value.ref _]) _ _ _); k_dflt (refine' len_filt ?mqk1 ?mqk2 ?mqk3 ?mqk4 ?mqk5 ?_; (case mqk1 => k_asm); (case mqk2 => k_mem); (case mqk3 => assumption); (case mqk4 => omega); (case mqk5 => assumption)); intro q' hq' hP' hG' hG1')
  k_with "binaryOp Mult ref int" => (k_here; k_dflt (refine' mul_oneB ?mqF ?mqN ?mql ?mqlo ?mqhi ?_; (case mqF => k_asm); (case mqN => k_asm); (case mql => k_mem); (case mqlo => omega); (case mqhi => omega)); intro D' ws' h' F' N' l1 hI' hX'; (try k_lt l1); (try k_sweep))
  k_with "binaryOp Add ref ref" => (k_here; (with_reducible show wpAny _ _ (binaryOp _ (Value.ref _) (Value.ref _)) _ _ _); k_dflt (refine' kmk_add_ints ?mqF ?mqN ?mqa ?mqb ?mqi ?mqj ?_ ?mqz; (case mqF => k_asm); (case mqN => k_asm); (case mqa => kmk_list); (case mqb => kmk_list); (case mqi => l_ints); (case mqj => l_ints); (case mqz => (simp only [sizeLine_eq, List.length_append, List.length_take, List.length_drop, List.length_replicate]; omega))); intro D' ws' h' F' N' l1 hI'; (try k_lt l1); (try k_sweep))
  k_with "kmk_nums" => first
      | ((with_reducible show IntsAre (slicePick _ none (some _) none).toList _); exact kmk_upto (by l_ints) (by omega))
      | ((with_reducible show IntsAre (slicePick _ (some _) none none).toList _); exact kmk_from (by l_ints) (by omega))
  try (unfold PCall; k_fill; fail)
  refine' pcall_ofC (binds := [("row", .ref l), ("columns", .ref lc), ("column", .int col t2), ("tab", .int tab t3)]) (mL := fun y => if y = "tab" then some (.int tab t3) else if y = "columns" then some (.ref lc) else if y = "row" then some (.ref l) else none) (mC := fun y => if y = "column" then some (.int col t2) else none) ?k6 ?k7 ?k9 ?kB ?kD ?mL ?mC ?c2 ?c3 ?c4 ?c6 ?_
  (case k6 => k_is)
  (case k7 => k_is)
  (case k9 => intro _; exact BindsTo.of_eq rfl)
  (case kB => exact rfl)
  (case kD => decide +kernel)
  (case mL => intro _; rfl)
  (case mC => intro _; rfl)
  (case c2 => exact rfl)
  (case c3 => exact rfl)
  (case c4 => exact rfl)
  (case c6 => decide)
  intro p loose mean mg mb dp un gd outer A₀ base g L h₁ tk₁ cells s B F N Y X T hpre hd hu
  k_cells Y
  try (rename_i dY'; simp only [if_true] at dY')
  try dsimp only
  try k_fold
  obtain ⟨hp1, hp2⟩ := hpre
  k_steps
  all_goals (refine ⟨freshP_of (by assumption) (by k_mem) (by k_mem) (by k_mem) (by assumption) (by assumption) ?_ ?_⟩)
  all_goals first | rw [lawCut_pos (by assumption) (by assumption) (by assumption) (by assumption)] | (rw [lawCut_neg (by assumption)]; rintro ⟨ha, hb, hc⟩; first | omega | exact absurd hb (by assumption) | exact absurd hc (by assumption))
end PF8

section PF9
/-- at b stands a text of the codes cs -/
structure TextAt (h : Heap) (x : Addr) (cs : List Int) (ot : Obj) (es : List DictEntry) (n : Nat) (lc : Addr) (vs : List Value) (pad : List Int) (t1 : Tok) : Prop where
  inst : InstAt h x ot 192 (some (dictOf es n))
  gap : getL "gap_start" es = some (some (.int cs.length t1))
  cells : getL "cells" es = some (some (.ref lc))
  code : getL "code" es = some none
  list : h.IsList lc vs.toArray
  are : IntsAre vs (cs ++ pad)
structure ViewAt (h : Heap) (b : Addr) (cs : List Int) (ob : Obj) (es : List DictEntry) (n : Nat) (tx : Addr) (t2 t3 : Tok) (ot : Obj) (es2 : List DictEntry) (n2 : Nat) (lc : Addr) (vs : List Value) (pad : List Int) (t1 : Tok) : Prop where
  inst : InstAt h b ob 403 (some (dictOf es n))
  begv : getL "begv" es = some (some (.int 1 t2))
  zv : getL "zv" es = some (some (.int (cs.length + 1) t3))
  text : getL "text" es = some (some (.ref tx))
  code_at : getL "code_at" es = some none
  begin : getL "begin" es = some none
  tx : TextAt h tx cs ot es2 n2 lc vs pad t1
theorem instAt_keeps {h h' : Heap} {x C : Addr} {ox : Obj} {od : Option Obj} (I : InstAt h x ox C od) (k : ∀ b o, h.get? b = some o → h'.get? b = some o) : InstAt h' x ox C od := by
  obtain ⟨a, b, c, d⟩ := I
  refine ⟨k _ _ a, b, c, ?_⟩
  revert d
  cases ox.dict <;> cases od <;> simp
  exact k _ _
theorem getD_left (cs pad : List Int) (k : Int) (h0 : 0 ≤ k) (h1 : k < cs.length) : (cs ++ pad).getD k.toNat 0 = cs.getD k.toNat 0 := by
  rw [List.getD_eq_getElem?_getD, List.getD_eq_getElem?_getD, List.getElem?_append_left (by omega)]
theorem item_mine {prog : Program} {w : World} {A : Around} {E : Value → Shared → Prop} {s : Shared} {value slice : PySem.Expr} {l : Addr} {vs : List Value} {ns : List Int} {k : Int} {u : Tok} {Q : Value → Shared → Prop}
    (hl : s.heap.IsList l vs.toArray) (hi : IntsAre vs ns) (h0 : 0 ≤ k) (h1 : k < ns.length) (hb : k < 2 ^ 63) (h : ∀ t, Q (.int (ns.getD k.toNat 0) t) s)
    (hs : subscripted slice false (.ref l) (.int k u) = operate [.ref l, .int k u] (getItem (.ref l) (.int k u)) := by with_unfolding_all rfl) :
    wpAny (model prog w) A (subscriptTail value slice (.ref l) (.int k u)) Q E s := by
  have hlt : k.toNat < ns.length := by omega
  have e : ∃ t, vs[k.toNat]? = some (.int (ns.getD k.toNat 0) t) := by
    have hv : k.toNat < vs.length := by rw [hi.length]; exact hlt
    obtain ⟨n, t, e1, e2⟩ := IntsAre.at hi k.toNat vs[k.toNat] (List.getElem?_eq_getElem hv)
    refine ⟨t, ?_⟩
    rw [List.getElem?_eq_getElem hv, e1, List.getD_eq_getElem?_getD, e2]
    rfl
  obtain ⟨t, e⟩ := e
  exact tail_any hl.typeIs slot_list_getitem.lookup (wpAny_getItem_list hl h0 hb (by simpa using e) (h t)) hs
set_option maxHeartbeats 4000000 in
theorem code_c (w : World) (x : Addr) (cs : List Int) (ot : Obj) (es : List DictEntry) (n : Nat) (lc : Addr) (vs : List Value) (pad : List Int) (t1 t2 : Tok) (k : Int) (h0 : 0 ≤ k) (h1 : k < cs.length) (hlen : cs.length < 2 ^ 40) :
    PCall w 133 [.ref x, .int k t2] 1 (fun h => TextAt h x cs ot es n lc vs pad t1) (fun _ _ v => ∃ t, v = .int (cs.getD k.toNat 0) t) := by
  w_top off
  k_with_none
  k_with "BodyEnd" => (refine bodyEnd_ (by assumption) ?_)
  k_with "k_inst" => exact instAt_keeps (by assumption) (Fr.keep (by k_asm))
  k_with "k_get" => assumption
  k_with "subscriptTail" => (k_here; (with_reducible show wpAny _ _ (subscriptTail _ _ (Value.ref _) (Value.int _ _)) _ _ _); (k_dflt (refine' item_mine ?mqk1 ?mqk2 ?mqk3 ?mqk4 ?mqk5 ?_ ?mqk6; (case mqk1 => is_list); (case mqk2 => assumption); (case mqk3 => omega); (case mqk4 => (rw [List.length_append]; omega)); (case mqk5 => omega); (case mqk6 => with_unfolding_all rfl))); intro t')
  try (unfold PCall; k_fill; fail)
  refine' pcall_of (binds := [("self", .ref x), ("at", .int k t2)]) ?k6 ?k7 ?k9 ?kB ?c2 ?c3 ?c4 ?c5 ?c6 ?_
  (case k6 => k_is)
  (case k7 => k_is)
  (case k9 => intro _; exact BindsTo.of_eq rfl)
  (case c5 => decide)
  (case kB => exact locs rfl)
  (case c2 => exact rfl)
  (case c3 => exact rfl)
  (case c4 => exact rfl)
  (case c6 => decide)
  intro p loose mean mg mb dp un gd outer A₀ base g L h₁ s B F N X T hpre hd hu
  try dsimp only
  try k_fold
  obtain ⟨hI, hg, hc, hm, hl, hi⟩ := hpre
  have hb : cs.length < 2 ^ 40 := hlen
  k_steps
  all_goals exact ⟨⟨_, congrArg (fun i => Value.int i _) (getD_left cs pad k h0 h1)⟩⟩


theorem textAt_keeps {h h' : Heap} {x : Addr} {cs : List Int} {ot : Obj} {es : List DictEntry} {n : Nat} {lc : Addr} {vs : List Value} {pad : List Int} {t1 : Tok} (I : TextAt h x cs ot es n lc vs pad t1) (k : ∀ b o, h.get? b = some o → h'.get? b = some o) : TextAt h' x cs ot es n lc vs pad t1 :=
  ⟨instAt_keeps I.inst k, I.gap, I.cells, I.code, stays_list k I.list, I.are⟩
theorem viewAt_keeps {h h' : Heap} {b : Addr} {cs : List Int} {ob : Obj} {es : List DictEntry} {n : Nat} {tx : Addr} {t2 t3 : Tok} {ot : Obj} {es2 : List DictEntry} {n2 : Nat} {lc : Addr} {vs : List Value} {pad : List Int} {t1 : Tok} (I : ViewAt h b cs ob es n tx t2 t3 ot es2 n2 lc vs pad t1) (k : ∀ b o, h.get? b = some o → h'.get? b = some o) : ViewAt h' b cs ob es n tx t2 t3 ot es2 n2 lc vs pad t1 :=
  ⟨instAt_keeps I.inst k, I.begv, I.zv, I.text, I.code_at, I.begin, textAt_keeps I.tx k⟩
set_option maxHeartbeats 4000000 in
theorem code_at_c (w : World) (b : Addr) (cs : List Int) (ob : Obj) (es : List DictEntry) (n : Nat) (tx : Addr) (t2 t3 : Tok) (ot : Obj) (es2 : List DictEntry) (n2 : Nat) (lc : Addr) (vs : List Value) (pad : List Int) (t1 t4 : Tok) (k : Int) (h0 : 1 ≤ k) (h1 : k ≤ cs.length) (hlen : cs.length < 2 ^ 40) :
    PCall w 358 [.ref b, .int k t4] 2 (fun h => ViewAt h b cs ob es n tx t2 t3 ot es2 n2 lc vs pad t1) (fun _ _ v => ∃ t, v = .int (cs.getD (k - 1).toNat 0) t) := by
  w_top off
  k_with_none
  k_with "BodyEnd" => (refine bodyEnd_ (by assumption) ?_)
  k_with "k_inst" => exact instAt_keeps (by assumption) (Fr.keep (by k_asm))
  k_with "k_get" => assumption
  k_with "subscriptTail" => (k_here; (with_reducible show wpAny _ _ (subscriptTail _ _ (Value.ref _) (Value.int _ _)) _ _ _); (k_dflt (refine' item_mine ?mqk1 ?mqk2 ?mqk3 ?mqk4 ?mqk5 ?_ ?mqk6; (case mqk1 => is_list); (case mqk2 => assumption); (case mqk3 => omega); (case mqk4 => (rw [List.length_append]; omega)); (case mqk5 => omega); (case mqk6 => with_unfolding_all rfl))); intro t')
  k_with "call ref" => (k_here; k_dflt (
      refine' pcall_use (code_c _ _ _ _ _ _ _ _ _ _ _ _ ?mqs1 ?mqs2 ?mqs3) ?mqB ?mqF ?mqX ?mqN ?mqT ?mqk ?mqpre ?mqd ?mqu ?_
      (case mqB => k_asm)
      (case mqF => k_asm)
      (case mqX => k_asm)
      (case mqN => k_asm)
      (case mqT => k_asm)
      (case mqk => first | exact rfl | assumption)
      (case mqpre => exact textAt_keeps (by assumption) (Fr.keep (by k_asm)))
      (case mqs1 => first | assumption | omega | (simp only [List.length_append, List.length_take, List.length_drop, List.length_replicate] at *; omega))
      (case mqs2 => first | assumption | omega | (simp only [List.length_append, List.length_take, List.length_drop, List.length_replicate] at *; omega))
      (case mqs3 => first | assumption | omega | (simp only [List.length_append, List.length_take, List.length_drop, List.length_replicate] at *; omega))
      (case mqd => first | omega | ktr_room)
      (case mqu => first | omega | ktr_units)
      intro v' h' tk' F' N' S' P'
      obtain ⟨t', e'⟩ := P'
      subst e'
      clear S'
      try dsimp only
      try k_sweep))
  try (unfold PCall; k_fill; fail)
  refine' pcall_of (binds := [("self", .ref b), ("place", .int k t4)]) ?k6 ?k7 ?k9 ?kB ?c2 ?c3 ?c4 ?c5 ?c6 ?_
  (case k6 => k_is)
  (case k7 => k_is)
  (case k9 => intro _; exact BindsTo.of_eq rfl)
  (case c5 => decide)
  (case kB => exact locs rfl)
  (case c2 => exact rfl)
  (case c3 => exact rfl)
  (case c4 => exact rfl)
  (case c6 => decide)
  intro p loose mean mg mb dp un gd outer A₀ base g L h₁ s B F N X T hpre hd hu
  try dsimp only
  try k_fold
  obtain ⟨hI, hbe, hzv, htx, hca, hbg, hT⟩ := hpre
  have hTi := hT.inst
  have hTc := hT.code
  k_steps
  all_goals exact ⟨⟨_, rfl⟩⟩

set_option maxHeartbeats 4000000 in
theorem begin_c (w : World) (b : Addr) (cs : List Int) (ob : Obj) (es : List DictEntry) (n : Nat) (tx : Addr) (t2 t3 : Tok) (ot : Obj) (es2 : List DictEntry) (n2 : Nat) (lc : Addr) (vs : List Value) (pad : List Int) (t1 : Tok) :
    PCall w 337 [.ref b] 1 (fun h => ViewAt h b cs ob es n tx t2 t3 ot es2 n2 lc vs pad t1) (fun _ _ v => ∃ t, v = .int 1 t) := by
  w_top off
  k_with_none
  k_with "BodyEnd" => (refine bodyEnd_ (by assumption) ?_)
  k_with "k_inst" => exact instAt_keeps (by assumption) (Fr.keep (by k_asm))
  k_with "k_get" => assumption
  k_with "subscriptTail" => (k_here; (with_reducible show wpAny _ _ (subscriptTail _ _ (Value.ref _) (Value.int _ _)) _ _ _); (k_dflt (refine' item_mine ?mqk1 ?mqk2 ?mqk3 ?mqk4 ?mqk5 ?_ ?mqk6; (case mqk1 => is_list); (case mqk2 => assumption); (case mqk3 => omega); (case mqk4 => (rw [List.length_append]; omega)); (case mqk5 => omega); (case mqk6 => with_unfolding_all rfl))); intro t')
  k_with "call ref" => (k_here; k_dflt (
      refine' pcall_use (code_c _ _ _ _ _ _ _ _ _ _ _ _ ?mqs1 ?mqs2 ?mqs3) ?mqB ?mqF ?mqX ?mqN ?mqT ?mqk ?mqpre ?mqd ?mqu ?_
      (case mqB => k_asm)
      (case mqF => k_asm)
      (case mqX => k_asm)
      (case mqN => k_asm)
      (case mqT => k_asm)
      (case mqk => first | exact rfl | assumption)
      (case mqpre => exact textAt_keeps (by assumption) (Fr.keep (by k_asm)))
      (case mqs1 => first | assumption | omega | (simp only [List.length_append, List.length_take, List.length_drop, List.length_replicate] at *; omega))
      (case mqs2 => first | assumption | omega | (simp only [List.length_append, List.length_take, List.length_drop, List.length_replicate] at *; omega))
      (case mqs3 => first | assumption | omega | (simp only [List.length_append, List.length_take, List.length_drop, List.length_replicate] at *; omega))
      (case mqd => first | omega | ktr_room)
      (case mqu => first | omega | ktr_units)
      intro v' h' tk' F' N' S' P'
      obtain ⟨t', e'⟩ := P'
      subst e'
      clear S'
      try dsimp only
      try k_sweep))
  k_with "call ref" => (k_here; k_dflt (
      refine' pcall_use (code_at_c _ _ _ _ _ _ _ _ _ _ _ _ _ _ _ _ _ _ ?mqs1 ?mqs2 ?mqs3) ?mqB ?mqF ?mqX ?mqN ?mqT ?mqk ?mqpre ?mqd ?mqu ?_
      (case mqB => k_asm)
      (case mqF => k_asm)
      (case mqX => k_asm)
      (case mqN => k_asm)
      (case mqT => k_asm)
      (case mqk => first | exact rfl | assumption)
      (case mqpre => exact viewAt_keeps (by assumption) (Fr.keep (by k_asm)))
      (case mqs1 => first | assumption | omega | (simp only [List.length_append, List.length_take, List.length_drop, List.length_replicate] at *; omega))
      (case mqs2 => first | assumption | omega | (simp only [List.length_append, List.length_take, List.length_drop, List.length_replicate] at *; omega))
      (case mqs3 => first | assumption | omega | (simp only [List.length_append, List.length_take, List.length_drop, List.length_replicate] at *; omega))
      (case mqd => first | omega | ktr_room)
      (case mqu => first | omega | ktr_units)
      intro v' h' tk' F' N' S' P'
      obtain ⟨t', e'⟩ := P'
      subst e'
      clear S'
      try dsimp only
      try k_sweep))
  try (unfold PCall; k_fill; fail)
  refine' pcall_of (binds := [("self", .ref b)]) ?k6 ?k7 ?k9 ?kB ?c2 ?c3 ?c4 ?c5 ?c6 ?_
  (case k6 => k_is)
  (case k7 => k_is)
  (case k9 => intro _; exact BindsTo.of_eq rfl)
  (case c5 => decide)
  (case kB => exact locs rfl)
  (case c2 => exact rfl)
  (case c3 => exact rfl)
  (case c4 => exact rfl)
  (case c6 => decide)
  intro p loose mean mg mb dp un gd outer A₀ base g L h₁ s B F N X T hpre hd hu
  try dsimp only
  try k_fold
  obtain ⟨hI, hbe, hzv, htx, hca, hbg, hT⟩ := hpre
  k_steps
  all_goals exact ⟨⟨_, rfl⟩⟩
/-- of the first i codes: how many stand up to the last line feed -/
def lineBeg (cs : List Int) : Nat → Nat
  | 0 => 0
  | i + 1 => if cs.getD i 0 = 10 then i + 1 else lineBeg cs i
theorem lineBeg_le (cs : List Int) : ∀ i, lineBeg cs i ≤ i
  | 0 => Nat.le_refl _
  | i + 1 => by unfold lineBeg; split; exact Nat.le_refl _; exact Nat.le_succ_of_le (lineBeg_le cs i)

def lsJ (cs : List Int) (k : Nat) (b : Addr) (t4 : Tok) (n : Nat) (m : Str → Option Value) (news : List (Addr × Obj)) : Prop :=
  ∃ (i : Nat) (t : Tok), n = i ∧ m = (fun (y : Str) => if y = "at" then some (Value.int ((i : Int) + 1) t) else List.lookup y ([("view", Value.ref b), ("place", Value.int ((k : Int) + 1) t4)] : List (Str × Value)).reverse) ∧ news = [] ∧ i ≤ k ∧ lineBeg cs i = lineBeg cs k
theorem lsStep {g h' : Heap} {L : Addr} {s : Shared} {cs : List Int} {k i : Nat} {b : Addr} {t4 t' : Tok} {tk : Nat} {x : Int} {v : Value} {m : Str → Option Value} (F : Fr g L h' m) (N : News g L h' [])
    (hm : m = fun (y : Str) => if y = "at" then some (Value.int x t') else if y = "at" then some v else List.lookup y ([("view", Value.ref b), ("place", Value.int ((k : Int) + 1) t4)] : List (Str × Value)).reverse)
    (hx : x = i) (h0 : 0 < i) (hi : i ≤ k) (hl : lineBeg cs i = lineBeg cs k) (hne : cs.getD ((i : Int) + 1 - 1 - 1).toNat 0 ≠ 10) : WhileStep g L s (lsJ cs k b t4) i .next { s with heap := h', toks := tk } := by
  rw [show ((i : Int) + 1 - 1 - 1).toNat = i - 1 by omega] at hne
  refine WhileStep.intro F N (n' := i - 1) (by omega) ⟨i - 1, t', rfl, ?_, rfl, by omega, ?_⟩
  · rw [hm, hx]
    funext y
    by_cases e : y = ("at" : Str)
    · simp only [e, if_true]; congr 2; omega
    · simp only [e, if_false]
  · rw [← hl]
    obtain ⟨j, rfl⟩ : ∃ j, i = j + 1 := ⟨i - 1, by omega⟩
    simp only [Nat.add_sub_cancel] at hne ⊢
    rw [lineBeg, if_neg hne]
theorem line_start_of {cs : List Int} {k i : Nat} (hl : lineBeg cs i = lineBeg cs k) (h : i = 0 ∨ cs.getD ((i : Int) + 1 - 1 - 1).toNat 0 = 10) : lineBeg cs k = i := by
  rw [show ((i : Int) + 1 - 1 - 1).toNat = i - 1 by omega] at h
  rw [← hl]
  cases i with
  | zero => rfl
  | succ j =>
    rcases h with h | h
    · cases h
    · rw [lineBeg, if_pos (by simpa using h)]
def JMark (J : Nat → (Str → Option Value) → List (Addr × Obj) → Prop) : Prop := J = J
abbrev JMark.get {J : Nat → (Str → Option Value) → List (Addr × Obj) → Prop} (_ : JMark J) := J
set_option maxHeartbeats 4000000 in
theorem line_start_c (w : World) (b : Addr) (cs : List Int) (ob : Obj) (es : List DictEntry) (n : Nat) (tx : Addr) (t2 t3 : Tok) (ot : Obj) (es2 : List DictEntry) (n2 : Nat) (lc : Addr) (vs : List Value) (pad : List Int) (t1 t4 : Tok) (k : Nat) (h1 : k ≤ cs.length) (hlen : cs.length < 2 ^ 40) :
    PCall w 28 [.ref b, .int ((k : Int) + 1) t4] 3 (fun h => ViewAt h b cs ob es n tx t2 t3 ot es2 n2 lc vs pad t1) (fun _ _ v => ∃ t, v = .int ((lineBeg cs k : Nat) + 1) t) := by
  w_top off
  k_with_none
  k_with "BodyEnd" => (refine bodyEnd_ (by assumption) ?_)
  k_with "k_inst" => exact instAt_keeps (by assumption) (Fr.keep (by k_asm))
  k_with "k_get" => assumption
  k_with "subscriptTail" => (k_here; (with_reducible show wpAny _ _ (subscriptTail _ _ (Value.ref _) (Value.int _ _)) _ _ _); (k_dflt (refine' item_mine ?mqk1 ?mqk2 ?mqk3 ?mqk4 ?mqk5 ?_ ?mqk6; (case mqk1 => is_list); (case mqk2 => assumption); (case mqk3 => omega); (case mqk4 => (rw [List.length_append]; omega)); (case mqk5 => omega); (case mqk6 => with_unfolding_all rfl))); intro t')
  k_with "call ref" => (k_here; k_dflt (
      refine' pcall_use (code_c _ _ _ _ _ _ _ _ _ _ _ _ ?mqs1 ?mqs2 ?mqs3) ?mqB ?mqF ?mqX ?mqN ?mqT ?mqk ?mqpre ?mqd ?mqu ?_
      (case mqB => k_asm)
      (case mqF => k_asm)
      (case mqX => k_asm)
      (case mqN => k_asm)
      (case mqT => k_asm)
      (case mqk => first | exact rfl | assumption)
      (case mqpre => exact textAt_keeps (by assumption) (Fr.keep (by k_asm)))
      (case mqs1 => first | assumption | omega | (simp only [List.length_append, List.length_take, List.length_drop, List.length_replicate] at *; omega))
      (case mqs2 => first | assumption | omega | (simp only [List.length_append, List.length_take, List.length_drop, List.length_replicate] at *; omega))
      (case mqs3 => first | assumption | omega | (simp only [List.length_append, List.length_take, List.length_drop, List.length_replicate] at *; omega))
      (case mqd => first | omega | ktr_room)
      (case mqu => first | omega | ktr_units)
      intro v' h' tk' F' N' S' P'
      obtain ⟨t', e'⟩ := P'
      subst e'
      clear S'
      try dsimp only
      try k_sweep))
  k_with "call ref" => (k_here; k_dflt (
      refine' pcall_use (code_at_c _ _ _ _ _ _ _ _ _ _ _ _ _ _ _ _ _ _ ?mqs1 ?mqs2 ?mqs3) ?mqB ?mqF ?mqX ?mqN ?mqT ?mqk ?mqpre ?mqd ?mqu ?_
      (case mqB => k_asm)
      (case mqF => k_asm)
      (case mqX => k_asm)
      (case mqN => k_asm)
      (case mqT => k_asm)
      (case mqk => first | exact rfl | assumption)
      (case mqpre => exact viewAt_keeps (by assumption) (Fr.keep (by k_asm)))
      (case mqs1 => first | assumption | omega | (simp only [List.length_append, List.length_take, List.length_drop, List.length_replicate] at *; omega))
      (case mqs2 => first | assumption | omega | (simp only [List.length_append, List.length_take, List.length_drop, List.length_replicate] at *; omega))
      (case mqs3 => first | assumption | omega | (simp only [List.length_append, List.length_take, List.length_drop, List.length_replicate] at *; omega))
      (case mqd => first | omega | ktr_room)
      (case mqu => first | omega | ktr_units)
      intro v' h' tk' F' N' S' P'
      obtain ⟨t', e'⟩ := P'
      subst e'
      clear S'
      try dsimp only
      try k_sweep))
  k_with "call ref" => (k_here; k_dflt (
      refine' pcall_use (begin_c _ _ _ _ _ _ _ _ _ _ _ _ _ _ _ _) ?mqB ?mqF ?mqX ?mqN ?mqT ?mqk ?mqpre ?mqd ?mqu ?_
      (case mqB => k_asm)
      (case mqF => k_asm)
      (case mqX => k_asm)
      (case mqN => k_asm)
      (case mqT => k_asm)
      (case mqk => first | exact rfl | assumption)
      (case mqpre => exact viewAt_keeps (by assumption) (Fr.keep (by k_asm)))
      (case mqd => first | omega | ktr_room)
      (case mqu => first | omega | ktr_units)
      intro v' h' tk' F' N' S' P'
      obtain ⟨t', e'⟩ := P'
      subst e'
      clear S'
      try dsimp only
      try k_sweep))
  k_with "exec While" => (k_dflt ((rename JMark _ => hJ9); (refine' While_inv (JMark.get hJ9) ?mqF ?mqN ?mqJ ?mqturn ?mqE; (case mqF => k_asm); (case mqN => k_asm); (case mqE => exact fun _ _ hf => hf.elim); (case mqJ => exact ⟨_, _, rfl, rfl, rfl, Nat.le_refl _, rfl⟩)); intro n' m' news' h' tk' F' N' J'; obtain ⟨i', t', e1', e2', e3', hi', hl'⟩ := J'; subst e1'; subst e2'; subst e3'))
  k_with "WhileStep" => (k_dflt (exact lsStep (by assumption) (by assumption) rfl (by omega) (by omega) (by assumption) (by assumption) (by assumption)))
  try (unfold PCall; k_fill; fail)
  refine' pcall_of (binds := [("view", .ref b), ("place", .int ((k : Int) + 1) t4)]) ?k6 ?k7 ?k9 ?kB ?c2 ?c3 ?c4 ?c5 ?c6 ?_
  (case k6 => k_is)
  (case k7 => k_is)
  (case k9 => intro _; exact BindsTo.of_eq rfl)
  (case c5 => decide)
  (case kB => exact locs rfl)
  (case c2 => exact rfl)
  (case c3 => exact rfl)
  (case c4 => exact rfl)
  (case c6 => decide)
  intro p loose mean mg mb dp un gd outer A₀ base g L h₁ s B F N X T hpre hd hu
  try dsimp only
  try k_fold
  have hI := hpre.inst
  have hbe := hpre.begv
  have hca := hpre.code_at
  have hbg := hpre.begin
  have hJ : JMark (lsJ cs k b t4) := rfl
  k_steps
  · exact ⟨⟨_, congrArg (fun i => Value.int i _) (by rw [line_start_of (by assumption) (.inr (by assumption))])⟩⟩
  · exact ⟨⟨_, congrArg (fun i => Value.int i _) (by rw [line_start_of (by assumption) (.inl (by omega))])⟩⟩

/-- the columns that a view tells -/
def viewCol (tab : Int) (cs : List Int) (k : Nat) : Int := colAt tab ((cs.take k).drop (lineBeg cs k))

def viewCol1 (tab : Int) (cs : List Int) (k j : Nat) : Int := colAt tab ((cs.take (lineBeg cs k + j)).drop (lineBeg cs k))
theorem viewCol1_zero {tab : Int} {cs : List Int} {k : Nat} : (0 : Int) = viewCol1 tab cs k ([] : List Int).length := by
  have : (cs.take (lineBeg cs k + 0)).drop (lineBeg cs k) = [] := List.drop_eq_nil_of_le (by rw [List.length_take]; omega)
  simp only [viewCol1, List.length_nil, this]; rfl
theorem viewCol1_step {tab : Int} {cs pre : List Int} {k : Nat} {now x : Int} (e : now = viewCol1 tab cs k pre.length) (hx : x = (lineBeg cs k : Nat) + 1 + (pre.length : Int)) (hlt : lineBeg cs k + pre.length < cs.length) :
    now + wAt (cs.getD (x - 1).toNat 0) now tab = viewCol1 tab cs k (pre ++ [x]).length := by
  rw [show (x - 1).toNat = lineBeg cs k + pre.length by omega]
  rw [List.length_append, List.length_singleton]
  unfold viewCol1 at e ⊢
  rw [← Nat.add_assoc, take_snoc_getD _ _ hlt, List.drop_append_of_le_length (by rw [List.length_take]; omega), colAt_snoc, ← e]
  rfl
set_option maxHeartbeats 4000000 in
theorem column_at_columns_c (w : World) (b : Addr) (cs : List Int) (ob : Obj) (es : List DictEntry) (n : Nat) (tx : Addr) (t2 t3 : Tok) (ot : Obj) (es2 : List DictEntry) (n2 : Nat) (lc : Addr) (vs : List Value) (pad : List Int) (t1 t4 t5 : Tok) (k : Nat) (tab : Int) (h1 : k ≤ cs.length) (hlen : cs.length < 2 ^ 20) (hw : 0 < tab) :
    PCall w 42 [.ref b, .int ((k : Int) + 1) t4, .int tab t5] 4 (fun h => ViewAt h b cs ob es n tx t2 t3 ot es2 n2 lc vs pad t1) (fun _ _ v => ∃ t, v = .int (viewCol tab cs k) t) := by
  w_top off
  k_with_none
  k_with "BodyEnd" => (refine bodyEnd_ (by assumption) ?_)
  k_with "k_inst" => exact instAt_keeps (by assumption) (Fr.keep (by k_asm))
  k_with "k_get" => assumption
  k_with "subscriptTail" => (k_here; (with_reducible show wpAny _ _ (subscriptTail _ _ (Value.ref _) (Value.int _ _)) _ _ _); (k_dflt (refine' item_mine ?mqk1 ?mqk2 ?mqk3 ?mqk4 ?mqk5 ?_ ?mqk6; (case mqk1 => is_list); (case mqk2 => assumption); (case mqk3 => omega); (case mqk4 => (rw [List.length_append]; omega)); (case mqk5 => omega); (case mqk6 => with_unfolding_all rfl))); intro t')
  k_with "call ref" => (k_here; k_dflt (
      refine' pcall_use (code_c _ _ _ _ _ _ _ _ _ _ _ _ ?mqs1 ?mqs2 ?mqs3) ?mqB ?mqF ?mqX ?mqN ?mqT ?mqk ?mqpre ?mqd ?mqu ?_
      (case mqB => k_asm)
      (case mqF => k_asm)
      (case mqX => k_asm)
      (case mqN => k_asm)
      (case mqT => k_asm)
      (case mqk => first | exact rfl | assumption)
      (case mqpre => exact textAt_keeps (by assumption) (Fr.keep (by k_asm)))
      (case mqs1 => first | assumption | omega | (simp only [List.length_append, List.length_take, List.length_drop, List.length_replicate] at *; omega))
      (case mqs2 => first | assumption | omega | (simp only [List.length_append, List.length_take, List.length_drop, List.length_replicate] at *; omega))
      (case mqs3 => first | assumption | omega | (simp only [List.length_append, List.length_take, List.length_drop, List.length_replicate] at *; omega))
      (case mqd => first | omega | ktr_room)
      (case mqu => first | omega | ktr_units)
      intro v' h' tk' F' N' S' P'
      obtain ⟨t', e'⟩ := P'
      subst e'
      clear S'
      try dsimp only
      try k_sweep))
  k_with "call ref" => (k_here; k_dflt (
      refine' pcall_use (code_at_c _ _ _ _ _ _ _ _ _ _ _ _ _ _ _ _ _ _ ?mqs1 ?mqs2 ?mqs3) ?mqB ?mqF ?mqX ?mqN ?mqT ?mqk ?mqpre ?mqd ?mqu ?_
      (case mqB => k_asm)
      (case mqF => k_asm)
      (case mqX => k_asm)
      (case mqN => k_asm)
      (case mqT => k_asm)
      (case mqk => first | exact rfl | assumption)
      (case mqpre => exact viewAt_keeps (by assumption) (Fr.keep (by k_asm)))
      (case mqs1 => first | assumption | omega | (simp only [List.length_append, List.length_take, List.length_drop, List.length_replicate] at *; omega))
      (case mqs2 => first | assumption | omega | (simp only [List.length_append, List.length_take, List.length_drop, List.length_replicate] at *; omega))
      (case mqs3 => first | assumption | omega | (simp only [List.length_append, List.length_take, List.length_drop, List.length_replicate] at *; omega))
      (case mqd => first | omega | ktr_room)
      (case mqu => first | omega | ktr_units)
      intro v' h' tk' F' N' S' P'
      obtain ⟨t', e'⟩ := P'
      subst e'
      clear S'
      try dsimp only
      try k_sweep))
  k_with "call ref" => (k_here; k_dflt (
      refine' pcall_use (begin_c _ _ _ _ _ _ _ _ _ _ _ _ _ _ _ _) ?mqB ?mqF ?mqX ?mqN ?mqT ?mqk ?mqpre ?mqd ?mqu ?_
      (case mqB => k_asm)
      (case mqF => k_asm)
      (case mqX => k_asm)
      (case mqN => k_asm)
      (case mqT => k_asm)
      (case mqk => first | exact rfl | assumption)
      (case mqpre => exact viewAt_keeps (by assumption) (Fr.keep (by k_asm)))
      (case mqd => first | omega | ktr_room)
      (case mqu => first | omega | ktr_units)
      intro v' h' tk' F' N' S' P'
      obtain ⟨t', e'⟩ := P'
      subst e'
      clear S'
      try dsimp only
      try k_sweep))
  k_with "exec While" => (k_dflt ((rename JMark _ => hJ9); (refine' While_inv (JMark.get hJ9) ?mqF ?mqN ?mqJ ?mqturn ?mqE; (case mqF => k_asm); (case mqN => k_asm); (case mqE => exact fun _ _ hf => hf.elim); (case mqJ => exact ⟨_, _, rfl, rfl, rfl, Nat.le_refl _, rfl⟩)); intro n' m' news' h' tk' F' N' J'; obtain ⟨i', t', e1', e2', e3', hi', hl'⟩ := J'; subst e1'; subst e2'; subst e3'))
  k_with "WhileStep" => (k_dflt (exact lsStep (by assumption) (by assumption) rfl (by omega) (by omega) (by assumption) (by assumption) (by assumption)))
  k_with "call ref" => (k_here; k_dflt (
      refine' pcall_use (line_start_c _ _ _ _ _ _ _ _ _ _ _ _ _ _ _ _ _ _ ?mqs1 ?mqs2) ?mqB ?mqF ?mqX ?mqN ?mqT ?mqk ?mqpre ?mqd ?mqu ?_
      (case mqB => k_asm)
      (case mqF => k_asm)
      (case mqX => k_asm)
      (case mqN => k_asm)
      (case mqT => k_asm)
      (case mqk => first | exact rfl | assumption)
      (case mqpre => exact viewAt_keeps (by assumption) (Fr.keep (by k_asm)))
      (case mqs1 => first | assumption | omega | (simp only [List.length_append, List.length_take, List.length_drop, List.length_replicate] at *; omega))
      (case mqs2 => first | assumption | omega | (simp only [List.length_append, List.length_take, List.length_drop, List.length_replicate] at *; omega))
      (case mqd => first | omega | ktr_room)
      (case mqu => first | omega | ktr_units)
      intro v' h' tk' F' N' S' P'
      obtain ⟨t', e'⟩ := P'
      subst e'
      clear S'
      try dsimp only
      try k_sweep))
  k_with "call ref" => (k_here; k_dflt (
      refine' pcall_use (width_at_c _ _ _ _ _ _ _ ?mqw1) ?mqB ?mqF ?mqX ?mqN ?mqT ?mqk ?mqpre ?mqd ?mqu ?_
      (case mqB => k_asm)
      (case mqF => k_asm)
      (case mqX => k_asm)
      (case mqN => k_asm)
      (case mqT => k_asm)
      (case mqk => first | exact rfl | assumption)
      (case mqpre => trivial)
      (case mqw1 => first | assumption | omega)
      (case mqd => first | omega | ktr_room)
      (case mqu => first | omega | ktr_units)
      intro v' h' tk' F' N' S' P'
      obtain ⟨t', e'⟩ := P'
      subst e'
      clear S'
      try dsimp only
      try k_sweep))
  k_with "exec For Name Call cons nil" => (k_here; (rename Fr _ _ _ _ => lF'); (with_unfolding_all refine' For_invVF lF' ?mqk1 ?mqk2 ?_; (case mqk1 => exact rfl); (case mqk2 => exact rfl); k_whole))
  try (unfold PCall; k_fill; fail)
  refine' pcall_of (binds := [("view", .ref b), ("place", .int ((k : Int) + 1) t4), ("width", .int tab t5)]) ?k6 ?k7 ?k9 ?kB ?c2 ?c3 ?c4 ?c5 ?c6 ?_
  (case k6 => k_is)
  (case k7 => k_is)
  (case k9 => intro _; exact BindsTo.of_eq rfl)
  (case c5 => decide)
  (case kB => exact locs rfl)
  (case c2 => exact rfl)
  (case c3 => exact rfl)
  (case c4 => exact rfl)
  (case c6 => decide)
  intro p loose mean mg mb dp un gd outer A₀ base g L h₁ s B F N X T hpre hd hu
  try dsimp only
  try k_fold
  have hI := hpre.inst
  have hca := hpre.code_at
  have hle := lineBeg_le cs k
  k_with "pyIter ref" => k_state (fun pre column => column = viewCol1 tab cs k pre.length) "column"
  k_with "state" => first | exact viewCol1_zero | exact viewCol1_step (by assumption) (by omega) (by omega)
  k_steps
  rename _ = viewCol1 _ _ _ _ => e
  refine ⟨⟨_, congrArg (fun i => Value.int i _) ?_⟩⟩
  rw [e, rangeKs_length, viewCol1, viewCol]
  congr 3
  omega
end PF9

section PF10
/-- how a body ends that turns the object d alone of what stood -/
def BodyEndM (g : Heap) (s : Shared) (d : Addr) (post : Obj → Value → Prop) (v : Value) (s' : Shared) : Prop :=
  ∃ h' tk o', s' = { s with heap := h', toks := tk } ∧ g.StaysIn h' ∧ h'.get? d = some o' ∧ post o' v
theorem bodyEndM_ {g : Heap} {s : Shared} {d L : Addr} {m : Str → Option Value} {news : List (Addr × Obj)} {post : Obj → Value → Prop} {v : Value} {h' : Heap} {tk : Nat} {o' : Obj} (F : Fr g L h' m) (N : News g L h' news) (hm : (d, o') ∈ news) (hp : PostIs (post o' v)) :
    BodyEndM g s d post v { s with heap := h', toks := tk } := ⟨h', tk, o', rfl, F.keep, N.get hm, hp.out⟩

/-- a contract of a def that turns the object d alone of what stood -/
def MCall (w : World) (f : Addr) (vs : List Value) (dep : Nat) (d : Addr) (o : Obj) (post : Obj → Value → Prop) : Prop :=
  ∀ (p : Program) (loose : List Str) (mean : ExcName → Option Value) (mg mb : Str → Option Value) (dp un : Nat) (gd : Option (List Code)) (cn : Str) (cs : Scope) (a : Addr) (ccd : Value) (cl : List (Str × Addr)) (outer : List Env) (A₀ : Around) (base h₀ : Heap) (L : Addr) (m : Str → Option Value) (s : Shared) (Q E : Value → Shared → Prop),
    Below A₀ base outer h₀ → Fr h₀ L s.heap m → (Mine.hd.heap_1_39 w.params).In h₀ → Top p loose mean mg mb h₀ → cs.kind = .function → News h₀ L s.heap [(d, o)] →
    dp + dep < recursionLimit → un + 8 * dep < cLine →
    (∀ v h' tk o', Fr h₀ L h' m → (∀ b ob, b ≠ d → s.heap.get? b = some ob → h'.get? b = some ob) → h'.get? d = some o' → post o' v → Q v { s with heap := h', toks := tk }) →
    wpAny (model PySem.Challenge.rw_rg0137_01.row.prog w) (ktrTop dp un gd cn cs L a ccd cl outer) (call (.ref f) vs) Q E s

theorem mcall_of {w : World} {f : Addr} {vs : List Value} {dep : Nat} {d : Addr} {o : Obj} {post : Obj → Value → Prop}
    {name qual : Str} {params : Arguments} {body : List Stmt} {scope : Scope} {dV kV doc pm cdv ct oc : Value} {an od : Option Addr} {osl : Array (Option Value)} {binds : List (Str × Value)}
    (ho : (Mine.hd.heap_1_39 w.params).lookup f = some ⟨oc, od, .func (fnOf name qual params body scope dV kV doc pm an cdv ct), osl⟩) (hcd : codeIn (Mine.hd.heap_1_39 w.params) cdv qual = true)
    (hbind : ∀ s, BindsTo s (fnOf name qual params body scope dV kV doc pm an cdv ct) ⟨vs, []⟩ binds) (hloc : ∀ y ∈ binds, scope.names.lookup y.1 = some .local)
    (hco : scope.isCoroutine = false) (hgen : scope.isGenerator = false) (hk : scope.kind = .function) (hcell : ∀ x ∈ scope.names, x.2 ≠ .cell) (hd1 : 1 ≤ dep)
    (h : ∀ (p : Program) (loose : List Str) (mean : ExcName → Option Value) (mg mb : Str → Option Value) (dp un : Nat) (gd : Option (List Code)) (outer : List Env) (A₀ : Around) (base g : Heap) (L : Addr) (h₁ : Heap) (s : Shared),
      Below A₀ base outer g → Fr g L h₁ (fun y => binds.reverse.lookup y) → News g L h₁ [(d, o)] → (Mine.hd.heap_1_39 w.params).In g → Top p loose mean mg mb g →
      dp + dep < recursionLimit + 1 → un + 8 * dep < cLine + 3 →
      wpAny (model PySem.Challenge.rw_rg0137_01.row.prog w) (ktrTop dp un gd qual scope L f cdv [] outer) (execs body (envOf qual scope L f cdv))
        (fun fl s' => BodyEndM g s d post (match fl with | .ret v => v | _ => .none) s') (fun _ _ => False) { s with heap := h₁ }) :
    MCall w f vs dep d o post := by
  intro p loose mean mg mb dp un gd cn cs a ccd cl outer A₀ base h₀ L m s Q E B F X T hck N hdp hun hret
  refine wpAny_call ?_
  obtain ⟨FG, BG, st, lv⟩ := groundX (A := ktrTop dp un gd cn cs L a ccd cl outer) (R := fun r s' => match r with | .ok (.ret v) => Q v s' | .ok _ => False | .error e => E e s') B F N rfl rfl hck
  refine codeAny_call_def (fd := fnOf name qual params body scope dV kV doc pm an cdv ct) (body := body) (binds := binds) ?_ ((X.keeps F.keep) _ _ ho) rfl (T.nolimit.keeps F.keep) (codeRec_of (X.keeps F.keep) hcd) rfl (hbind s) hcell hloc (fun h₁ hns hk₁ => ?_) hco hgen hk
  · show dp < recursionLimit
    omega
  refine wpAny_mono (h p loose mean mg mb (dp + 1) (un + 3) gd _ _ base _ s.heap.objs.size h₁ { s with toks := s.toks + binds.length } BG ⟨hns, fun b o e => hk₁ b o (of_hideAll _ e), Nat.le_of_eq (hideAll_size _ _)⟩
    (fun p hp => ⟨hk₁ _ _ (N p hp).1, Nat.ne_of_lt (Heap.lt_size (N p hp).1), hideAll_none _ (List.mem_map_of_mem hp)⟩) (X.keeps st) (T.keeps st) (by omega) (by omega)) (fun fl s' hl => ?_) fun _ _ y => y.elim
  obtain ⟨h', tk, o', rfl, k, hd', hp⟩ := hl
  have kk : ∀ b ob, b ≠ d → s.heap.get? b = some ob → h'.get? b = some ob := fun b ob hb e => k _ _ (hideAll_get _ e (by simpa using hb))
  have hdN := N (d, o) (.head _)
  refine hret _ _ _ _ ⟨?_, fun b o e => kk b o (fun q => ?_) (F.keep b o e), F.above⟩ kk hd' hp
  · obtain ⟨oL, es, ep, hL, hLd, hLk, hLf⟩ := F.ns
    exact ⟨oL, es, ep, kk _ _ (Ne.symm hdN.2.1) hL, hLd, hLk, hLf⟩
  · have := hdN.2.2
    rw [q] at e
    exact absurd (e.symm.trans this) (by simp)

theorem pop0 {prog : Program} {w : World} {A : Around} {E : Value → Shared → Prop} {s : Shared} {h₀ : Heap} {L D : Addr} {m : Str → Option Value} {news news' : List (Addr × Obj)} {vs : List Value} {n : Nat} {x : Int} {t u : Tok} {Q : Value → Shared → Prop}
    (F : Fr h₀ L s.heap m) (N : News h₀ L s.heap news) (U : Upd D (listOf (Value.int x t :: vs).toArray n) (listOf vs.toArray (n + 1)) news news') (hz : vs.length ≤ 100) (h : ∀ h', Fr h₀ L h' m → News h₀ L h' news' → Q (.int x t) { s with heap := h' }) :
    wpAny (model prog w) A (call (.builtin "list.pop") [.ref D, .int 0 u]) Q E s := by
  refine kl_popAt (k := 0) (p := []) (q := vs) (y := .int x t) F N rfl ?_ rfl U ?_ h
  · simp [seqIndex?]
  · simp [sizeLine]; omega
set_option maxHeartbeats 4000000 in
theorem law_draw_c (w : World) (d : Addr) (vs : List Value) (ns : List Int) (n : Nat) (many : Int) (t2 : Tok) (hi : IntsAre vs ns) (hm : 0 < many) (hm2 : many ≤ 100) (hlen : ns.length ≤ 40) :
    MCall w 496 [.ref d, .int many t2] 10 d (listOf vs.toArray n) (fun o' v => ∃ r t vs' ns' n', v = .int r t ∧ 0 ≤ r ∧ r < many ∧ o' = listOf (List.toArray vs') n' ∧ IntsAre vs' ns' ∧ ns'.length ≤ 40) := by
  w_top off
  k_with_none
  k_with "BodyEndM" => (refine bodyEndM_ (by assumption) (by assumption) (by k_mem) ?_)
  k_with "compareOp NotEq ref ref" => (k_here; k_dflt (refine' ne_intsK ?mqk1 ?mqk2 ?mqk3 ?mqk4 ?mqk5 ?_; (case mqk1 => kmk_list); (case mqk2 => l_ints); (case mqk3 => kmk_list); (case mqk4 => first | exact IntsAre.nil | l_ints); (case mqk5 => (dsimp only [ktrTop]; omega))))
  k_with "call builtin:list.pop" => (k_here; k_dflt (refine' pop0 ?mqF ?mqN ?mqU ?mqz ?_; (case mqF => k_asm); (case mqN => k_asm); (case mqU => k_upd); (case mqz => omega)); intro h' F' N'; (try k_sweep))
  try (unfold MCall; k_fill; fail)
  refine' mcall_of (binds := [("deck", .ref d), ("many", .int many t2)]) ?k6 ?k7 ?k9 ?kB ?c2 ?c3 ?c4 ?c5 ?c6 ?_
  (case k6 => k_is)
  (case k7 => k_is)
  (case k9 => intro _; exact BindsTo.of_eq rfl)
  (case c5 => decide)
  (case kB => exact locs rfl)
  (case c2 => exact rfl)
  (case c3 => exact rfl)
  (case c4 => exact rfl)
  (case c6 => decide)
  intro p loose mean mg mb dp un gd outer A₀ base g L h₁ s B F N X T hd hu
  try dsimp only
  try k_fold
  cases hi with
  | nil =>
    k_steps
    all_goals exact ⟨⟨0, _, [], [], n, rfl, Int.le_refl _, hm, rfl, .nil, Nat.zero_le _⟩⟩
  | cons x t hi' =>
    rename_i vs' ns'
    have hi : IntsAre (Value.int x t :: vs') (x :: ns') := .cons x t hi'
    have hl := hi'.length
    simp only [List.length_cons] at hlen
    k_steps
    · rename_i a
      simp at a
    · exact ⟨⟨_, _, vs', ns', n + 1, rfl, Int.fmod_nonneg_of_pos _ hm, Int.fmod_lt_of_pos _ hm, rfl, hi', by omega⟩⟩

theorem draw_use {w : World} {d : Addr} {vs : List Value} {ns : List Int} {n : Nat} {many : Int} {t2 : Tok}
    {p : Program} {loose : List Str} {mean : ExcName → Option Value} {mg mb : Str → Option Value} {dp un : Nat} {gd : Option (List Code)} {cn : Str} {cs : Scope} {a : Addr} {ccd : Value} {cl : List (Str × Addr)} {outer : List Env} {A₀ : Around} {base h₀ : Heap} {L : Addr} {m : Str → Option Value} {s : Shared} {Q E : Value → Shared → Prop} {news : List (Addr × Obj)} {nf : Obj → List (Addr × Obj)}
    (B : Below A₀ base outer h₀) (F : Fr h₀ L s.heap m) (X : (Mine.hd.heap_1_39 w.params).In h₀) (N : News h₀ L s.heap news) (T : Top p loose mean mg mb h₀) (hk : cs.kind = .function)
    (U : UpdF d (listOf vs.toArray n) news nf) (hi : IntsAre vs ns) (hm : 0 < many) (hm2 : many ≤ 100) (hlen : ns.length ≤ 40)
    (hd : dp + 10 < recursionLimit) (hu : un + 8 * 10 < cLine)
    (h : ∀ r t h' tk vs' ns' n', 0 ≤ r → r < many → Fr h₀ L h' m → News h₀ L h' (nf (listOf (List.toArray vs') n')) → IntsAre vs' ns' → ns'.length ≤ 40 → Q (.int r t) { s with heap := h', toks := tk }) :
    wpAny (model PySem.Challenge.rw_rg0137_01.row.prog w) (ktrTop dp un gd cn cs L a ccd cl outer) (call (.ref 496) [.ref d, .int many t2]) Q E s := by
  obtain ⟨pre, post, e, hg, h1, h2⟩ := U.split
  have hmem : (d, listOf vs.toArray n) ∈ news := by rw [e]; exact List.mem_append_right _ (.head _)
  refine law_draw_c w d vs ns n many t2 hi hm hm2 hlen p loose mean mg mb dp un gd cn cs a ccd cl outer A₀ base h₀ L m s Q E B F X T hk (fun q hq => by rw [List.mem_singleton.mp hq]; exact N _ hmem) hd hu ?_
  rintro v h' tk o' F' hkk ho' ⟨r, t, vs', ns', n', rfl, h3, h4, rfl, hi', hl'⟩
  refine h r t h' tk vs' ns' n' h3 h4 F' (fun q hq => ?_) hi' hl'
  rw [hg] at hq
  rcases List.mem_append.mp hq with hq | hq
  · have z := N q (by rw [e]; exact List.mem_append_left _ hq)
    exact ⟨hkk _ _ (h1 q hq) z.1, z.2⟩
  · rcases List.mem_cons.mp hq with rfl | hq
    · exact ⟨ho', (N _ hmem).2⟩
    · have z := N q (by rw [e]; exact List.mem_append_right _ (.tail _ hq))
      exact ⟨hkk _ _ (h2 q hq) z.1, z.2⟩
end PF10

section PPL
/-- the columns of a row, told by itself -/
def colsOf (tab : Int) (ns : List Int) : List Int := (List.range (ns.length + 1)).map fun k => colAt tab (ns.take k)
theorem colsOf_length (tab : Int) (ns : List Int) : (colsOf tab ns).length = ns.length + 1 := by simp [colsOf]
theorem colsOf_getD (tab : Int) (ns : List Int) (k : Nat) (h : k ≤ ns.length) : (colsOf tab ns).getD k 0 = colAt tab (ns.take k) := by
  rw [List.getD_eq_getElem?_getD, List.getElem?_eq_getElem (by rw [colsOf_length]; omega)]
  simp [colsOf]
theorem lineBeg_row {a r t : List Int} (ha : a = [] ∨ a.getD (a.length - 1) 0 = 10) (hr : ∀ x ∈ r, x ≠ 10) : ∀ k, k ≤ r.length → lineBeg (a ++ r ++ t) (a.length + k) = a.length
  | 0, _ => by
    rcases ha with rfl | h
    · rfl
    · cases a with
      | nil => rfl
      | cons x b =>
        have e : (x :: b ++ r ++ t).getD b.length 0 = 10 := by
          rw [List.append_assoc, List.getD_eq_getElem?_getD, List.getElem?_append_left (by simp), ← List.getD_eq_getElem?_getD]
          simpa using h
        show lineBeg _ (b.length + 1) = _
        rw [lineBeg, if_pos e]; simp
  | k + 1, hk => by
    have ih := lineBeg_row (t := t) ha hr k (by omega)
    rw [← Nat.add_assoc, lineBeg, if_neg, ih]
    rw [List.append_assoc, List.getD_eq_getElem?_getD, List.getElem?_append_right (by omega), Nat.add_sub_cancel_left, List.getElem?_append_left (by omega), List.getElem?_eq_getElem (by omega)]
    exact hr _ (List.getElem_mem _)
theorem viewCol_row {tab : Int} {a r t : List Int} (ha : a = [] ∨ a.getD (a.length - 1) 0 = 10) (hr : ∀ x ∈ r, x ≠ 10) (k : Nat) (hk : k ≤ r.length) : viewCol tab (a ++ r ++ t) (a.length + k) = colAt tab (r.take k) := by
  rw [viewCol, lineBeg_row ha hr k hk, List.append_assoc, List.take_append, List.drop_append, List.take_of_length_le (by omega), List.drop_length, Nat.add_sub_cancel_left, Nat.sub_self, List.nil_append, List.drop_zero, List.take_append_of_le_length hk]
/-- the columns rise -/
theorem colAt_lt {tab : Int} (hw : 0 < tab) (ns : List Int) (i j : Nat) (hij : i < j) (hj : j ≤ ns.length) : colAt tab (ns.take i) < colAt tab (ns.take j) := by
  induction j with
  | zero => omega
  | succ j ih =>
    have e : colAt tab (ns.take (j + 1)) = colBehind (colAt tab (ns.take j)) (ns.getD j 0) tab := by rw [take_snoc_getD _ _ (by omega), colAt_snoc]
    have p := wAt_pos (ns.getD j 0) (colAt tab (ns.take j)) tab hw
    rw [e]
    unfold colBehind
    rcases Nat.lt_or_ge i j with q | q
    · have := ih q (by omega); omega
    · have : i = j := by omega
      subst this; omega
theorem placeFrom_filt {tab : Int} (hw : 0 < tab) (col : Int) : ∀ (ns : List Int) (now : Int), placeFrom tab col now ns = (((List.range ns.length).map fun k => (ns.take k).foldl (fun c n => colBehind c n tab) now).filter (fun c => decide (c < col))).length
  | [], now => by simp [placeFrom]
  | n :: r, now => by
    have e : (List.range (n :: r).length).map (fun k => ((n :: r).take k).foldl (fun c n => colBehind c n tab) now) = now :: (List.range r.length).map (fun k => (r.take k).foldl (fun c n => colBehind c n tab) (colBehind now n tab)) := by
      rw [List.length_cons, List.range_succ_eq_map, List.map_cons, List.map_map]
      rfl
    rw [e, placeFrom, List.filter_cons]
    by_cases h : col ≤ now
    · rw [if_pos h, if_neg (by simp; omega)]
      symm
      rw [List.length_eq_zero_iff, List.filter_eq_nil_iff]
      intro c hc
      obtain ⟨k, _, rfl⟩ := List.mem_map.mp hc
      have := fold_ge hw (r.take k) (colBehind now n tab)
      have := wAt_pos n now tab hw
      unfold colBehind at *
      simp; omega
    · rw [if_neg h, if_pos (by simp; omega), placeFrom_filt hw col r, List.length_cons]
theorem placeAt_law {tab : Int} (hw : 0 < tab) (col : Int) (ns : List Int) : placeAt tab col ns = lawPlace ns (colsOf tab ns) col := by
  unfold placeAt lawPlace colsOf
  rw [placeFrom_filt hw, ← List.map_take, List.take_range, Nat.min_eq_left (by omega)]
  rfl
theorem placeAt_le (tab col : Int) (ns : List Int) : placeAt tab col ns ≤ ns.length := placeFrom_le ..
theorem placeFrom_lt (tab col : Int) : ∀ (ns : List Int) (now : Int) (j : Nat), j < placeFrom tab col now ns → (ns.take j).foldl (fun c n => colBehind c n tab) now < col
  | [], _, _, h => by simp [placeFrom] at h
  | n :: r, now, j, h => by
    unfold placeFrom at h
    split at h
    · omega
    · cases j with
      | zero => simp; omega
      | succ j => simpa using placeFrom_lt tab col r _ j (by omega)
theorem placeAt_lt {tab col : Int} {ns : List Int} {j : Nat} (h : j < placeAt tab col ns) : colAt tab (ns.take j) < col := placeFrom_lt tab col ns 0 j h
theorem colAt_append (tab : Int) (a b : List Int) : colAt tab (a ++ b) = colFrom tab (colAt tab a) b := by simp [colAt, colFrom]
theorem colFrom_blanks (tab c : Int) : ∀ k, colFrom tab c (List.replicate k 32) = c + k
  | 0 => by simp [colFrom]
  | k + 1 => by
    have ih := colFrom_blanks tab (colBehind c 32 tab) k
    rw [List.replicate_succ]
    show colFrom tab (colBehind c 32 tab) (List.replicate k 32) = _
    rw [ih]
    have : colBehind c 32 tab = c + 1 := by simp [colBehind, wAt]
    omega
/-- the place of a column within blanks -/
theorem placeAt_blanks {tab col : Int} {a r : List Int} {k : Nat} (ha : ∀ j, j ≤ a.length → colAt tab (a.take j) < col) (hk : col ≤ colAt tab a + k) (h0 : colAt tab a ≤ col) :
    placeAt tab col (a ++ List.replicate k 32 ++ r) = a.length + (col - colAt tab a).toNat := by
  have key : ∀ j, j ≤ k → colAt tab ((a ++ List.replicate k 32 ++ r).take (a.length + j)) = colAt tab a + j := fun j hj => by
    rw [List.append_assoc, List.take_append, List.take_of_length_le (by omega), Nat.add_sub_cancel_left, List.take_append_of_le_length (by simpa using hj), List.take_replicate, colAt_append, colFrom_blanks, Nat.min_eq_left hj]
  refine placeAt_of ?_ (fun j hj => ?_) (.inr ?_)
  · simp; omega
  · rcases Nat.lt_or_ge j (a.length + 1) with q | q
    · rw [List.append_assoc, List.take_append_of_le_length (by omega)]
      exact ha j (by omega)
    · have := key (j - a.length) (by omega)
      rw [show a.length + (j - a.length) = j by omega] at this
      rw [this]; omega
  · rw [key _ (by omega)]; omega
theorem cutL_law {tab : Int} (hw : 0 < tab) (col : Int) (ns : List Int) : cutL tab col ns = lawCutL ns (colsOf tab ns) col := by
  have hle := placeAt_le tab col ns
  have hpl := placeAt_law hw col ns
  unfold lawCutL
  rw [← hpl]
  generalize hp : placeAt tab col ns = p at *
  by_cases h : p = 0 ∨ ns.getD (p - 1) 0 ≠ 9 ∨ colAt tab (ns.take p) ≤ col
  · have e : openedL tab col ns = ns := by unfold openedL; rw [hp]; exact if_pos h
    rw [if_neg]
    · unfold cutL; simp only []; rw [e, hp]
    · rintro ⟨h1, h2, h3⟩
      rw [colsOf_getD _ _ _ hle] at h3
      rcases h with h | h | h
      · omega
      · exact h h2
      · omega
  · have e : openedL tab col ns = ns.take (p - 1) ++ List.replicate (colAt tab (ns.take p) - colAt tab (ns.take (p - 1))).toNat 32 ++ ns.drop p := by unfold openedL; rw [hp]; exact if_neg h
    have h1 : 0 < p := Nat.pos_of_ne_zero fun q => h (.inl q)
    have h2 : ns.getD (p - 1) 0 = 9 := Decidable.byContradiction fun q => h (.inr (.inl q))
    have h3 : col < colAt tab (ns.take p) := Int.not_le.mp fun q => h (.inr (.inr q))
    have hb : colAt tab (ns.take (p - 1)) < col := placeAt_lt (by omega)
    rw [if_pos ⟨h1, h2, by rw [colsOf_getD _ _ _ hle]; exact h3⟩]
    rw [colsOf_getD _ _ _ hle, colsOf_getD _ _ (p - 1) (by omega)]
    have hl : (ns.take (p - 1)).length = p - 1 := by rw [List.length_take]; omega
    have pl := placeAt_blanks (tab := tab) (col := col) (a := ns.take (p - 1)) (r := ns.drop p) (k := (colAt tab (ns.take p) - colAt tab (ns.take (p - 1))).toNat) (fun j hj => by
      rw [List.take_take, Nat.min_eq_left (by omega)]
      exact placeAt_lt (by omega)) (by omega) (by omega)
    unfold cutL
    simp only []
    rw [e, pl]
    refine Prod.ext ?_ ?_
    · show List.take _ _ = _
      rw [List.append_assoc, List.take_append, List.take_of_length_le (by omega), Nat.add_sub_cancel_left, List.take_append_of_le_length (by rw [List.length_replicate]; omega), List.take_replicate, Nat.min_eq_left (by omega)]
    · show List.drop _ _ = _
      rw [List.append_assoc, List.drop_append, List.drop_eq_nil_of_le (by omega), List.nil_append, Nat.add_sub_cancel_left, List.drop_append_of_le_length (by rw [List.length_replicate]; omega), List.drop_replicate]
      congr 2; omega
/-- what is no tab and no blank -/
def inked (ns : List Int) : List Int := ns.filter fun c => !decide (c = 9) && !decide (c = 32)
theorem inked_append (a b : List Int) : inked (a ++ b) = inked a ++ inked b := List.filter_append ..
theorem inked_blanks (k : Nat) : inked (List.replicate k 32) = [] := by simp [inked]
theorem inked_spread (tab : Int) : ∀ (ns : List Int) (c : Int), inked (spreadL tab c ns) = inked ns
  | [], _ => rfl
  | n :: r, c => by
    rw [spreadL, inked_append, inked_spread tab r]
    by_cases h : n = 9
    · rw [if_pos h, inked_blanks, h]; rfl
    · rw [if_neg h]
      show inked [n] ++ inked r = inked ([n] ++ r)
      rw [inked_append]
theorem inked_extracted (tab first last : Int) (ns : List Int) : inked (extractedL tab first last ns) = inked (betweenL tab first last ns).2.1 := by
  rw [extractedL, inked_append, inked_append, inked_blanks, inked_blanks, inked_spread]; simp
theorem no_tab (tab first last : Int) (ns : List Int) : ¬ (9 : Int) ∈ extractedL tab first last ns := by
  have key : ∀ (ns : List Int) (c : Int), ¬ (9 : Int) ∈ spreadL tab c ns := by
    intro ns
    induction ns with
    | nil => intro c; simp [spreadL]
    | cons n r ih =>
      intro c h
      rw [spreadL] at h
      rcases List.mem_append.mp h with h | h
      · split at h
        · simp at h
        · simp at h; omega
      · exact ih _ h
  unfold extractedL
  intro h
  rcases List.mem_append.mp h with h | h
  · rcases List.mem_append.mp h with h | h
    · simp at h
    · exact key _ _ h
  · simp at h
theorem wAt_plain {n : Int} (h : n ≠ 9) (c c' tab tab' : Int) : wAt n c tab = wAt n c' tab' := by simp [wAt, h]
theorem colFrom_spread {tab : Int} (hw : 0 < tab) (tab' : Int) : ∀ (ns : List Int) (c x : Int), colFrom tab' x (spreadL tab c ns) = x + (colFrom tab c ns - c)
  | [], c, x => by simp [spreadL, colFrom]
  | n :: r, c, x => by
    have ih := colFrom_spread hw tab' r (colBehind c n tab)
    have p := wAt_pos n c tab hw
    show colFrom tab' x (_ ++ _) = x + (colFrom tab (colBehind c n tab) r - c)
    have ap : ∀ a b, colFrom tab' x (a ++ b) = colFrom tab' (colFrom tab' x a) b := fun a b => by simp [colFrom]
    rw [ap, ih]
    by_cases h : n = 9
    · rw [if_pos h, colFrom_blanks]
      unfold colBehind at *
      omega
    · rw [if_neg h]
      show colBehind x n tab' + _ = _
      have := wAt_plain h x c tab' tab
      unfold colBehind at *
      omega
theorem cutL_even {tab : Int} (hw : 0 < tab) (ns : List Int) (j : Nat) (hj : j ≤ ns.length) : cutL tab (colAt tab (ns.take j)) ns = (ns.take j, ns.drop j) := by
  have hp : placeAt tab (colAt tab (ns.take j)) ns = j := placeAt_of hj (fun i hi => colAt_lt hw ns i j hi hj) (.inr (Int.le_refl _))
  have e : openedL tab (colAt tab (ns.take j)) ns = ns := by unfold openedL; rw [hp]; exact if_pos (.inr (.inr (Int.le_refl _)))
  unfold cutL
  simp only []
  rw [e, hp]
theorem mem_colsOf {tab : Int} {ns : List Int} {c : Int} (h : c ∈ colsOf tab ns) : ∃ k, k ≤ ns.length ∧ c = colAt tab (ns.take k) := by
  obtain ⟨k, hk, e⟩ := List.mem_map.mp h
  exact ⟨k, by have := List.mem_range.mp hk; omega, e.symm⟩
theorem even_width {tab : Int} (hw : 0 < tab) {first last : Int} {ns : List Int} (hf : first ∈ colsOf tab ns) (hl : last ∈ colsOf tab ns) (hle : first ≤ last) (tab' : Int) : colAt tab' (extractedL tab first last ns) = last - first := by
  obtain ⟨i, hi, rfl⟩ := mem_colsOf hf
  obtain ⟨j, hj, rfl⟩ := mem_colsOf hl
  have hij : i ≤ j := by
    rcases Nat.lt_or_ge j i with q | q
    · have := colAt_lt hw ns j i q hi; omega
    · exact q
  have e1 := cutL_even hw ns j hj
  have e2 := cutL_even hw (ns.take j) i (by rw [List.length_take]; omega)
  have e3 : (ns.take j).take i = ns.take i := by rw [List.take_take, Nat.min_eq_left hij]
  rw [e3] at e2
  have e4 : colFrom tab (colAt tab (ns.take i)) ((ns.take j).drop i) = colAt tab (ns.take j) := by
    rw [← colAt_append, ← e3, List.take_append_drop]
  have st : startL tab (colAt tab (ns.take i)) (colAt tab (ns.take j)) ns = colAt tab (ns.take i) := by
    unfold startL betweenL; rw [e1]; simp only []; rw [e2]; exact Int.max_self _
  have en : endL tab (colAt tab (ns.take i)) (colAt tab (ns.take j)) ns = colAt tab (ns.take j) := by
    unfold endL; rw [st]; unfold betweenL; rw [e1]; simp only []; rw [e2]; exact e4
  unfold extractedL
  rw [st, en]
  unfold betweenL
  rw [e1]
  simp only []
  rw [e2]
  simp only [Int.sub_self, Int.max_self, Int.toNat_zero, List.replicate_zero, List.nil_append, List.append_nil]
  show colFrom tab' 0 (spreadL tab _ _) = _
  rw [colFrom_spread hw, e4]
  omega
end PPL

section PF11
theorem ccall_top {w : World} {f : Addr} {vs : List Value} {post : Heap → Heap → Value → Prop} {s : Shared} {R : Result → Shared → Prop}
    {p : Program} {loose : List Str} {mean : ExcName → Option Value} {mg mb : Str → Option Value}
    {name qual : Str} {params : Arguments} {body : List Stmt} {scope : Scope} {dV kV doc pm cdv ct oc : Value} {an od : Option Addr} {osl : Array (Option Value)} {binds : List (Str × Value)}
    (ho : (Mine.hd.heap_1_39 w.params).lookup f = some ⟨oc, od, .func (fnOf name qual params body scope dV kV doc pm an cdv ct), osl⟩) (hcd : codeIn (Mine.hd.heap_1_39 w.params) cdv qual = true)
    (hbind : ∀ s, BindsTo s (fnOf name qual params body scope dV kV doc pm an cdv ct) ⟨vs, []⟩ binds)
    (hkind : (binds.all fun y => scope.names.lookup y.1 == some .local || scope.names.lookup y.1 == some .cell) = true)
    (hnd : ((cellsFrom 0 scope.names []).map (·.1)).Nodup) (mL mC : Str → Option Value) (hmL : ∀ L, bindL (envOfC qual scope L f cdv).kindOf binds (fun _ => none) = mL) (hmC : ∀ L, bindC (envOfC qual scope L f cdv).kindOf binds (fun _ => none) = mC)
    (hco : scope.isCoroutine = false) (hgen : scope.isGenerator = false) (hk : scope.kind = .function)
    (X : (Mine.hd.heap_1_39 w.params).In s.heap) (T : Top p loose mean mg mb s.heap)
    (h : ∀ (A₀ : Around) (base g : Heap) (L : Addr) (h₁ : Heap) (tk : Nat) (cells : List (Addr × Obj)),
      Below A₀ base [] g → Fr g L h₁ mL → News g L h₁ cells →
      CellsAre mC (cellsFrom (L + 1) scope.names []) cells → (Mine.hd.heap_1_39 w.params).In g → Top p loose mean mg mb g → g = s.heap →
      wpAny (model PySem.Challenge.rw_rg0137_01.row.prog w) (ktrTop (callerA.depth + 1) (callerA.units + 3) (some []) qual scope L f cdv (cellsFrom (L + 1) scope.names []) []) (execs body (envOfC qual scope L f cdv))
        (fun fl s' => BodyEnd g s post (match fl with | .ret v => v | _ => .none) s') (fun _ _ => False) { s with heap := h₁, toks := tk })
    (hret : ∀ v h' tk, s.heap.StaysIn h' → post s.heap h' v → R (.ok (.ret v)) { s with heap := h', toks := tk }) :
    codeAny (model PySem.Challenge.rw_rg0137_01.row.prog w) callerA (.call (.ref f) ⟨vs, []⟩) R s := by
  refine codeAny_call_function (fd := fnOf name qual params body scope dV kV doc pm an cdv ct) (body := body) (by decide) (X _ _ ho) rfl hco hgen rfl (codeRec_of X hcd) (hbind s _ _ _ _ ?_)
  refine wpAny_newFunctionEnv_cells hk (kindsX hkind _) fun env' he s' x => ?_
  subst he
  refine ⟨T.nolimit.keeps x.toInCall.keep, codeAny_func ?_⟩
  obtain ⟨h₁, tk, rfl, _⟩ := x.done
  have hk₁ := x.toInCall.keep
  obtain ⟨cells, NC, Y⟩ := Cl.news (h₀ := s.heap) (Nat.le_refl _) fun n c hm => ⟨x.cell n c (lookup_of_mem_nodup (cellsFrom_names scope.names 0 (s.heap.objs.size + 1) [] [] rfl ▸ hnd) hm), x.above n c hm⟩
  refine wpAny_mono (h callerA s.heap s.heap s.heap.objs.size h₁ tk cells (below_caller _) ⟨hmL _ ▸ x.toInCall.ns, hk₁, Nat.le_refl _⟩ NC (hmC _ ▸ Y) X T rfl) (fun fl s' hl => ?_) fun _ _ y => y.elim
  obtain ⟨h', tk, rfl, k, hp⟩ := hl
  exact hret _ _ _ k hp
theorem CellsAre.seven {cm : Str → Option Value} {n₁ n₂ n₃ n₄ n₅ n₆ n₇ : Str} {c₁ c₂ c₃ c₄ c₅ c₆ c₇ : Addr} {cells : List (Addr × Obj)} (x : CellsAre cm [(n₁, c₁), (n₂, c₂), (n₃, c₃), (n₄, c₄), (n₅, c₅), (n₆, c₆), (n₇, c₇)] cells) :
    ∃ o₁ o₂ o₃ o₄ o₅ o₆ o₇, cells = [(c₁, o₁), (c₂, o₂), (c₃, o₃), (c₄, o₄), (c₅, o₅), (c₆, o₆), (c₇, o₇)] ∧ o₁.data = .cell (cm n₁) ∧ o₂.data = .cell (cm n₂) ∧ o₃.data = .cell (cm n₃) ∧ o₄.data = .cell (cm n₄) ∧ o₅.data = .cell (cm n₅) ∧ o₆.data = .cell (cm n₆) ∧ o₇.data = .cell (cm n₇) := by
  cases x with | cons h1 r => cases r with | cons h2 r => cases r with | cons h3 r => obtain ⟨o₄, o₅, o₆, o₇, rfl, h4, h5, h6, h7⟩ := r.four; exact ⟨_, _, _, o₄, o₅, o₆, o₇, rfl, h1, h2, h3, h4, h5, h6, h7⟩

/-- the law's statements from the k-th on, in a frame of the law's -/
def LawGo (w : World) (g : Heap) (s : Shared) (L : Addr) (qual : Str) (scope : Scope) (cdv : Value) (body : List Stmt) (k : Nat) (h : Heap) (tk : Nat) : Prop :=
  wpAny (model PySem.Challenge.rw_rg0137_01.row.prog w) (ktrTop (callerA.depth + 1) (callerA.units + 3) (some []) qual scope L 506 cdv (cellsFrom (L + 1) scope.names []) []) (execs (body.drop k) (envOfC qual scope L 506 cdv))
    (fun fl s' => BodyEnd g s (fun _ _ v => v = .bool true) (match fl with | .ret v => v | _ => .none) s') (fun _ _ => False) { s with heap := h, toks := tk }
abbrev LawAt (w : World) (qual : Str) (body : List Stmt) (scope : Scope) (cdv : Value) : Prop :=
  ∃ (name : Str) (params : Arguments) (dV kV doc pm ct oc : Value) (an od : Option Addr) (osl : Array (Option Value)), (Mine.hd.heap_1_39 w.params).lookup 506 = some ⟨oc, od, .func (fnOf name qual params body scope dV kV doc pm an cdv ct), osl⟩
theorem law_lit {w : World} {qual qual' : Str} {body body' : List Stmt} {scope scope' : Scope} {cdv cdv' : Value} {name' : Str} {params' : Arguments} {dV' kV' doc' pm' ct' oc' : Value} {an' od' : Option Addr} {osl' : Array (Option Value)} (ho : LawAt w qual body scope cdv)
    (ho' : (Mine.hd.heap_1_39 w.params).lookup 506 = some ⟨oc', od', .func (fnOf name' qual' params' body' scope' dV' kV' doc' pm' an' cdv' ct'), osl'⟩) : body = body' ∧ scope = scope' ∧ qual = qual' ∧ cdv = cdv' := by
  obtain ⟨name, params, dV, kV, doc, pm, ct, oc, an, od, osl, e⟩ := ho
  rw [ho'] at e
  simp only [Option.some.injEq, Obj.mk.injEq, Data.func.injEq, fnOf, FuncData.mk.injEq, FuncBody.stmts.injEq] at e
  exact ⟨e.2.2.1.2.2.2.1.symm, e.2.2.1.2.2.2.2.1.symm, e.2.2.1.2.1.symm, by simpa using e.2.2.1.2.2.2.2.2.2.2.2.2.2.2.2.1.symm⟩

theorem item_ref {prog : Program} {w : World} {A : Around} {E : Value → Shared → Prop} {s : Shared} {value slice : PySem.Expr} {l : Addr} {vs : List Value} {k : Int} {u : Tok} {v : Value} {Q : Value → Shared → Prop}
    (hl : s.heap.IsList l vs.toArray) (h0 : 0 ≤ k) (hb : k < 2 ^ 63) (hx : vs[k.toNat]? = some v) (h : Q v s)
    (hs : subscripted slice false (.ref l) (.int k u) = operate [.ref l, .int k u] (getItem (.ref l) (.int k u)) := by with_unfolding_all rfl) :
    wpAny (model prog w) A (subscriptTail value slice (.ref l) (.int k u)) Q E s :=
  tail_any hl.typeIs slot_list_getitem.lookup (wpAny_getItem_list hl h0 hb (by simpa using hx) h) hs

/-- an item of a written list of three lists, at an open place: one path -/
theorem pick3 {prog : Program} {w : World} {A : Around} {E : Value → Shared → Prop} {s : Shared} {h₀ : Heap} {L : Addr} {news : List (Addr × Obj)} {value slice : PySem.Expr} {D a b c : Addr} {va vb vc : List Value} {as bs cs : List Int} {kD na nb nc : Nat} {r : Int} {u : Tok} {Q : Value → Shared → Prop}
    (N : News h₀ L s.heap news) (hD : (D, listOf #[.ref a, .ref b, .ref c] kD) ∈ news) (h0 : 0 ≤ r) (h3 : r < 3) (ha : (a, listOf va.toArray na) ∈ news) (hb : (b, listOf vb.toArray nb) ∈ news) (hc : (c, listOf vc.toArray nc) ∈ news)
    (ia : IntsAre va as) (ib : IntsAre vb bs) (ic : IntsAre vc cs)
    (h : ∀ x vx nx xs, News h₀ L s.heap ((x, listOf (List.toArray vx) nx) :: news) → (@Eq Nat x a ∨ @Eq Nat x b ∨ @Eq Nat x c) → IntsAre vx xs → (xs = as ∨ xs = bs ∨ xs = cs) → Q (.ref x) s)
    (hs : subscripted slice false (.ref D) (.int r u) = operate [.ref D, .int r u] (getItem (.ref D) (.int r u)) := by with_unfolding_all rfl) :
    wpAny (model prog w) A (subscriptTail value slice (.ref D) (.int r u)) Q E s := by
  have more : ∀ q, q ∈ news → News h₀ L s.heap (q :: news) := fun q hq p hp => (List.mem_cons.mp hp).elim (fun e => e ▸ N q hq) (N p)
  have hl : s.heap.IsList D ([.ref a, .ref b, .ref c] : List Value).toArray := News.isList N hD
  have h' : r = 0 ∨ r = 1 ∨ r = 2 := by omega
  rcases h' with rfl | rfl | rfl
  · exact item_ref hl (by decide) (by decide) rfl (h a va na as (more _ ha) (.inl rfl) ia (.inl rfl)) hs
  · exact item_ref hl (by decide) (by decide) rfl (h b vb nb bs (more _ hb) (.inr (.inl rfl)) ib (.inr (.inl rfl))) hs
  · exact item_ref hl (by decide) (by decide) rfl (h c vc nc cs (more _ hc) (.inr (.inr rfl)) ic (.inr (.inr rfl))) hs
theorem pick2 {prog : Program} {w : World} {A : Around} {E : Value → Shared → Prop} {s : Shared} {h₀ : Heap} {L : Addr} {news : List (Addr × Obj)} {value slice : PySem.Expr} {D a b : Addr} {va vb : List Value} {as bs : List Int} {kD na nb : Nat} {r : Int} {u : Tok} {Q : Value → Shared → Prop}
    (N : News h₀ L s.heap news) (hD : (D, listOf #[.ref a, .ref b] kD) ∈ news) (h0 : 0 ≤ r) (h3 : r < 2) (ha : (a, listOf va.toArray na) ∈ news) (hb : (b, listOf vb.toArray nb) ∈ news)
    (ia : IntsAre va as) (ib : IntsAre vb bs)
    (h : ∀ x vx nx xs, News h₀ L s.heap ((x, listOf (List.toArray vx) nx) :: news) → (@Eq Nat x a ∨ @Eq Nat x b) → IntsAre vx xs → (xs = as ∨ xs = bs) → Q (.ref x) s)
    (hs : subscripted slice false (.ref D) (.int r u) = operate [.ref D, .int r u] (getItem (.ref D) (.int r u)) := by with_unfolding_all rfl) :
    wpAny (model prog w) A (subscriptTail value slice (.ref D) (.int r u)) Q E s := by
  have more : ∀ q, q ∈ news → News h₀ L s.heap (q :: news) := fun q hq p hp => (List.mem_cons.mp hp).elim (fun e => e ▸ N q hq) (N p)
  have hl : s.heap.IsList D ([.ref a, .ref b] : List Value).toArray := News.isList N hD
  have h' : r = 0 ∨ r = 1 := by omega
  rcases h' with rfl | rfl
  · exact item_ref hl (by decide) (by decide) rfl (h a va na as (more _ ha) (.inl rfl) ia (.inl rfl)) hs
  · exact item_ref hl (by decide) (by decide) rfl (h b vb nb bs (more _ hb) (.inr rfl) ib (.inr rfl)) hs
/-- an item of a written list of ints, at an open place: one path -/
theorem item_lit {prog : Program} {w : World} {A : Around} {E : Value → Shared → Prop} {s : Shared} {h₀ : Heap} {L : Addr} {news : List (Addr × Obj)} {value slice : PySem.Expr} {l : Addr} {vs : List Value} {ns : List Int} {c : Nat} {k : Int} {u : Tok} {Q : Value → Shared → Prop}
    (N : News h₀ L s.heap news) (hm : (l, listOf vs.toArray c) ∈ news) (hi : IntsAre vs ns) (h0 : 0 ≤ k) (h1 : k < ns.length) (hb : k < 2 ^ 63) (h : ∀ x t, x ∈ ns → Q (.int x t) s)
    (hs : subscripted slice false (.ref l) (.int k u) = operate [.ref l, .int k u] (getItem (.ref l) (.int k u)) := by with_unfolding_all rfl) :
    wpAny (model prog w) A (subscriptTail value slice (.ref l) (.int k u)) Q E s :=
  item_mine (News.isList N hm) hi h0 h1 hb (fun t => h _ t (by rw [List.getD_eq_getElem?_getD, List.getElem?_eq_getElem (by omega)]; exact List.getElem_mem _)) hs
theorem UpdF.same {d : Addr} {o : Obj} {l : List (Addr × Obj)} {nf : Obj → List (Addr × Obj)} (U : UpdF d o l nf) : nf o = l := by
  obtain ⟨pre, post, e, hg, _, _⟩ := U.split
  rw [hg, e]
/-- an item that a draw has made: an int of the menu; the deck's list alone has turned -/
def DrawEl (d : Addr) (nf : Obj → List (Addr × Obj)) (menu : List Int) (y : Value) (news' : List (Addr × Obj)) : Prop :=
  d = d ∧ ∃ x t vs' ns' n', y = .int x t ∧ x ∈ menu ∧ news' = nf (listOf (List.toArray vs') n') ∧ IntsAre vs' ns' ∧ ns'.length ≤ 40
section
variable {prog : Program} {w : World} {A : Around} {h₀ : Heap} {L : Addr} {m : Str → Option Value} {env : Env} {elt : Expr} {x : Str} {scope : Scope} {cl : List (Str × Addr)} {s : Shared} {S : List (Addr × Obj) → Prop} {P : Nat → Value → Prop} {Fin : List Value → List (Addr × Obj) → Prop} {news : List (Addr × Obj)}
theorem comp_draw {d c : Addr} {oc : Obj} {nf : Obj → List (Addr × Obj)} (menu : List Int) {n : Nat} {vs : List Value} {ns : List Int} {n' : Nat} (_hcl : cl.lookup ("deck" : Str) = some c) (_hc : (c, oc) ∈ news) (_hd : oc.data = .cell (some (.ref d))) (U : UpdF d (listOf vs.toArray n') news nf) (hi : IntsAre vs ns) (hl : ns.length ≤ 40)
    (turn : ∀ I oI C oC D m₂ ys h tk (E' : Value → Shared → Prop) vs ns n', IntsAre vs ns → ns.length ≤ 40 → LCg.NsObj oC m₂ → Fr h₀ L h m → News h₀ L h ((I, oI) :: (C, oC) :: (D, LCg.lst ys) :: nf (listOf (List.toArray vs) n')) → LCg.Off3 I C D (nf (listOf (List.toArray vs) n')) → ((@Ne Nat I C) ∧ (@Ne Nat I D) ∧ (@Ne Nat C D)) → KPfMark →
      wpAny (model prog w) A (eval elt (compEnvC scope cl C env)) (LCg.CompEnd h₀ L m { s with heap := h, toks := tk } I oI C oC D (LCg.lst ys) S (fun y news' => DrawEl d nf menu y news')) E' { s with heap := h, toks := tk })
    (fin : ∀ ys xs vs' ns' n', IntsAre ys xs → (∀ x ∈ xs, x ∈ menu) → xs.length = n → IntsAre vs' ns' → ns'.length ≤ 40 → Fin ys (nf (listOf (List.toArray vs') n'))) : LCg.CompRest prog w A h₀ L m env elt x scope cl s S P Fin n 0 [] news := by
  have key : ∀ (j i : Nat) (ys : List Value) (xs : List Int) (vs : List Value) (ns : List Int) (n' : Nat), i + j = n → IntsAre ys xs → (∀ x ∈ xs, x ∈ menu) → xs.length = i → IntsAre vs ns → ns.length ≤ 40 →
      LCg.CompRest prog w A h₀ L m env elt x scope cl s S P Fin j i ys (nf (listOf vs.toArray n')) := by
    intro j
    induction j with
    | zero =>
      intro i ys xs vs ns n' e hy hm hx hi hl
      exact LCg.CompRest.zero (fin ys xs vs ns n' hy hm (by omega) hi hl)
    | succ j ih =>
      intro i ys xs vs ns n' e hy hm hx hi hl
      refine LCg.CompRest.succ ?_
      intro v I oI C oC D m₂ h tk E' hv hC hxv F N off ne
      refine wpAny_mono (turn I oI C oC D m₂ ys h tk E' vs ns n' hi hl hC F N off ne True.intro) (fun y s₂ hq => ?_) fun _ _ e => e
      obtain ⟨h', tk', nw, e', F', N', off', hS, _, x', t, vs', ns'', n'', hy', hx', hn, hi', hl'⟩ := hq
      subst hn
      refine ⟨h', tk', _, e', F', N', off', hS, ?_⟩
      rw [hy']
      refine ih (i + 1) _ (xs ++ [x']) _ _ _ (by omega) (IntsAre.append hy (.cons _ _ .nil)) (fun z hz => ?_) (by simp [hx]) hi' hl'
      rcases List.mem_append.mp hz with hz | hz
      · exact hm z hz
      · rw [List.mem_singleton.mp hz]; exact hx'
  rw [← UpdF.same U]
  exact key n 0 [] [] vs ns n' (by omega) .nil (fun _ h => nomatch h) rfl hi hl
theorem draw_end {d I C D : Addr} {oI oC oD : Obj} {nf : Obj → List (Addr × Obj)} {menu : List Int} {h' : Heap} {tk' : Nat} {all : List (Addr × Obj)} {vs : List Value} {ns : List Int} {n' : Nat} {y : Int} {t : Tok}
    (F : Fr h₀ L h' m) (N : News h₀ L h' all) (hm : (d, listOf vs.toArray n') ∈ all) (hi : IntsAre vs ns) (hl : ns.length ≤ 40) (hy : y ∈ menu)
    (sub : ∀ p ∈ (I, oI) :: (C, oC) :: (D, oD) :: nf (listOf vs.toArray n'), p ∈ all) (off : LCg.Off3 I C D (nf (listOf vs.toArray n'))) (hS : S (nf (listOf vs.toArray n'))) :
    LCg.CompEnd h₀ L m s I oI C oC D oD S (fun y news' => DrawEl d nf menu y news') (.int y t) { s with heap := h', toks := tk' } :=
  LCg.CompEnd.intro F N _ sub off hS ⟨rfl, y, t, vs, ns, n', rfl, hy, rfl, hi, hl⟩
end
def StopHere (P : Prop) : Prop := P
theorem stopHere {P : Prop} (h : StopHere P) : P := h
end PF11

section PV1
/-- what the buffer's objects hold, no heap in sight -/
structure ViewIn (bd : Addr) (es : List DictEntry) (tx : Addr) (es2 : List DictEntry) (lc : Addr) (cs pad : List Int) (vc : List Value) (t1 t2 t3 : Tok) : Prop where
  begv : getL "begv" es = some (some (.int 1 t2))
  zv : getL "zv" es = some (some (.int (cs.length + 1) t3))
  text : getL "text" es = some (some (.ref tx))
  code_at : getL "code_at" es = some none
  begin : getL "begin" es = some none
  gap : getL "gap_start" es2 = some (some (.int cs.length t1))
  cells : getL "cells" es2 = some (some (.ref lc))
  code : getL "code" es2 = some none
  are : IntsAre vc (cs ++ pad)
theorem viewAt_of {h₀ h : Heap} {L b bd tx td lc : Addr} {es es2 : List DictEntry} {cs pad : List Int} {vc : List Value} {t1 t2 t3 : Tok} {n n2 kc : Nat} {news : List (Addr × Obj)}
    (V : ViewIn bd es tx es2 lc cs pad vc t1 t2 t3) (N : News h₀ L h news) (m1 : (b, instObj 403 bd) ∈ news) (m2 : (bd, dictOf es n) ∈ news) (m3 : (tx, instObj 192 td) ∈ news) (m4 : (td, dictOf es2 n2) ∈ news) (m5 : (lc, listOf vc.toArray kc) ∈ news) :
    ViewAt h b cs (instObj 403 bd) es n tx t2 t3 (instObj 192 td) es2 n2 lc vc pad t1 :=
  ⟨InstAt.of_news N m1 m2, V.begv, V.zv, V.text, V.code_at, V.begin, ⟨InstAt.of_news N m3 m4, V.gap, V.cells, V.code, News.isList N m5, V.are⟩⟩
theorem column_i (w : World) (b : Addr) (cs : List Int) (ob : Obj) (es : List DictEntry) (n : Nat) (tx : Addr) (t2 t3 : Tok) (ot : Obj) (es2 : List DictEntry) (n2 : Nat) (lc : Addr) (vs : List Value) (pad : List Int) (t1 t4 t5 : Tok) (x : Int) (tab : Int) (h0 : 1 ≤ x) (h1 : x ≤ cs.length + 1) (hlen : cs.length < 2 ^ 20) (hw : 0 < tab) :
    PCall w 42 [.ref b, .int x t4, .int tab t5] 4 (fun h => ViewAt h b cs ob es n tx t2 t3 ot es2 n2 lc vs pad t1) (fun _ _ v => ∃ t, v = .int (viewCol tab cs (x - 1).toNat) t) := by
  obtain ⟨k, rfl⟩ : ∃ k : Nat, x = (k : Int) + 1 := ⟨(x - 1).toNat, by omega⟩
  rw [show ((k : Int) + 1 - 1).toNat = k by omega]
  exact column_at_columns_c w b cs ob es n tx t2 t3 ot es2 n2 lc vs pad t1 t4 t5 k tab (by omega) hlen hw
theorem cols_view {tab : Int} {a r t : List Int} {g : Int → Int} (ha : a = [] ∨ a.getD (a.length - 1) 0 = 10) (hr : ∀ x ∈ r, x ≠ 10) (hg : ∀ k : Int, 0 ≤ k → k < r.length + 1 → g k = viewCol tab (a ++ r ++ t) ((a.length : Int) + k).toNat) (n : Nat) (hn : n = r.length + 1) : (rangeKs 0 n).map g = colsOf tab r := by
  subst hn
  unfold rangeKs colsOf
  rw [List.map_map]
  refine List.map_congr_left fun k hk => ?_
  have hk := List.mem_range.mp hk
  simp only [Function.comp]
  rw [hg _ (by omega) (by omega), show ((a.length : Int) + (0 + (k : Int))).toNat = a.length + k by omega, viewCol_row ha hr k (by omega)]
theorem cols_row {tab : Int} {r : List Int} {g : Int → Int} (hg : ∀ k : Int, g k = colAt tab (r.take k.toNat)) (n : Nat) (hn : n = r.length + 1) : (rangeKs 0 n).map g = colsOf tab r := by
  subst hn
  unfold rangeKs colsOf
  rw [List.map_map]
  refine List.map_congr_left fun k hk => ?_
  simp only [Function.comp]
  rw [hg, show (0 + (k : Int)).toNat = k by omega]
/-- a mark in the context: two cells at hand -/
def Cells2 (c d : Addr) : Prop := c = c ∧ d = d
theorem off1_mem {D : Addr} : ∀ {l : List (Addr × Obj)}, LCg.Off1 D l → ∀ p ∈ l, @Ne Nat p.1 D
  | [], _, _, h => nomatch h
  | _ :: _, x, p, h => by
    rcases List.mem_cons.mp h with rfl | h
    · exact x.1
    · exact off1_mem x.2 p h
theorem off1_two {c d D : Addr} {o o' : Obj} {l : List (Addr × Obj)} (_h : Cells2 c d) (x : LCg.Off1 D l) (m1 : (c, o) ∈ l) (m2 : (d, o') ∈ l) : @Ne Nat c D ∧ @Ne Nat d D := ⟨off1_mem x _ m1, off1_mem x _ m2⟩
end PV1

section PV2
open PySem.SeqAt
def twoL (a b : List Int) : PyData := .tuple [.list (a.map PyData.int), .list (b.map PyData.int)]
theorem reads_two {h : Heap} {a l1 l2 : Addr} {v1 v2 : List Value} {a1 a2 : List Int} {n : Nat} (ht : h.get? a = some { cls := .type "tuple", data := .seq #[.ref l1, .ref l2] n }) (h1 : h.IsList l1 v1.toArray) (i1 : IntsAre v1 a1) (h2 : h.IsList l2 v2.toArray) (i2 : IntsAre v2 a2) :
    Reads h (.ref a) (twoL a1 a2) ([l1] ++ ([l2] ++ [])) :=
  Reads.tuple ht rfl rfl (ReadsAll.cons (reads_of_ints h1 i1) (ReadsAll.cons (reads_of_ints h2 i2) ReadsAll.nil))
theorem shaped_two (a b : List Int) : shaped (twoL a b) = true := by
  have h1 := PySem.W.depthAll_ints a
  have h2 := PySem.W.depthAll_ints b
  have hd : PyData.depth (twoL a b) ≤ 64 := by simp only [twoL, PyData.depth, PyData.depthAll]; omega
  show (PyData.canLay0 (twoL a b) && decide (PyData.depth (twoL a b) ≤ 64)) = true
  rw [Bool.and_eq_true]
  exact ⟨by simp only [twoL, PyData.canLay0, PyData.canLayAll0, canLayAll0_ints, Bool.and_self], decide_eq_true hd⟩
theorem noMix_two (a b c d : List Int) : noMix (twoL a b) (twoL c d) = true := by
  simp only [twoL, noMix, noMixAll, noMix_ints, Bool.and_self]
theorem same_two (a b c d : List Int) : PySem.Spec.same (twoL a b) (twoL c d) = decide ((a, b) = (c, d)) := by
  simp only [twoL, PySem.Spec.same, PySem.Spec.sameAll, same_ints, Bool.and_true]
  by_cases h : a = c <;> by_cases h' : b = d <;> simp [h, h']
theorem ne_two {prog : Program} {w : World} {A : Around} {E : Value → Shared → Prop} {s : Shared} {h₀ : Heap} {L p q l1 l2 k1 k2 : Addr} {news : List (Addr × Obj)} {v1 v2 u1 u2 : List Value} {a1 a2 b1 b2 : List Int} {n n1 n2 c c1 c2 : Nat} {Q : Value → Shared → Prop}
    (N : News h₀ L s.heap news) (mp : (p, ({ cls := .type "tuple", data := .seq #[.ref l1, .ref l2] n } : Obj)) ∈ news) (m1 : (l1, listOf v1.toArray n1) ∈ news) (m2 : (l2, listOf v2.toArray n2) ∈ news)
    (mq : (q, ({ cls := .type "tuple", data := .seq #[.ref k1, .ref k2] c } : Obj)) ∈ news) (j1 : (k1, listOf u1.toArray c1) ∈ news) (j2 : (k2, listOf u2.toArray c2) ∈ news)
    (i1 : IntsAre v1 a1) (i2 : IntsAre v2 a2) (i3 : IntsAre u1 b1) (i4 : IntsAre u2 b2) (hu : A.units + 64 < cLine)
    (h : Q (.bool (!decide ((a1, a2) = (b1, b2)))) s) : wpAny (model prog w) A (compareOp .NotEq (.ref p) (.ref q)) Q E s :=
  ne_dataH_same (reads_two (N.get mp) (News.isList N m1) i1 (News.isList N m2) i2) (reads_two (N.get mq) (News.isList N j1) i3 (News.isList N j2) i4) (shaped_two _ _) (shaped_two _ _) hu (noMix_two ..) (by rw [same_two]; exact h)

/-- is an int one of a list's ints -/
theorem any_mem (k : Int) (ns : List Int) : ns.any (· == k) = decide (k ∈ ns) := by
  induction ns with
  | nil => rfl
  | cons x r ih =>
    rw [List.any_cons, ih]
    by_cases h : x = k
    · simp [h]
    · simp [h, Ne.symm h]
theorem eqGives_of {k : Int} {t : Tok} {vs : List Value} {ns : List Int} (hi : IntsAre vs ns) : ∀ y ∈ vs, MeetsSeq.EqGives y (.int k t) (isInt k y) := by
  induction hi with
  | nil => intro y hy; cases hy
  | cons x u r ih =>
    intro y hy
    rcases List.mem_cons.mp hy with rfl | hy
    · exact MeetsSeq.EqGives.int x k u t
    · exact ih y hy
theorem in_ints {prog : Program} {w : World} {A : Around} {E : Value → Shared → Prop} {s : Shared} {l : Addr} {vs : List Value} {ns : List Int} {k : Int} {t : Tok} {Q : Value → Shared → Prop}
    (hl : s.heap.IsList l vs.toArray) (hi : IntsAre vs ns) (h : Q (.bool (decide (k ∈ ns))) s) : wpAny (model prog w) A (compareOp .In (.int k t) (.ref l)) Q E s :=
  SeqInW.in_listW (isInt k) (fun y hy => eqGives_of hi y (by simpa using hy)) hl (by rw [← Array.any_toList, show vs.toArray.toList = vs by simp, any_isInt k hi, any_mem]; exact h)
theorem notIn_ints {prog : Program} {w : World} {A : Around} {E : Value → Shared → Prop} {s : Shared} {l : Addr} {vs : List Value} {ns : List Int} {k : Int} {t : Tok} {Q : Value → Shared → Prop}
    (hl : s.heap.IsList l vs.toArray) (hi : IntsAre vs ns) (h : Q (.bool (!decide (k ∈ ns))) s) : wpAny (model prog w) A (compareOp .NotIn (.int k t) (.ref l)) Q E s :=
  SeqInW.notIn_listW (isInt k) (fun y hy => eqGives_of hi y (by simpa using hy)) hl (by rw [← Array.any_toList, show vs.toArray.toList = vs by simp, any_isInt k hi, any_mem]; exact h)
end PV2

section PV3
/-- a mark in the context: the column at hand -/
def ColIs (x : Int) : Prop := x = x
/-- a mark in the context: the cell at hand -/
def CellIs (c : Addr) : Prop := c = c
/-- how a turn of a loop ends that turns one cell alone -/
def ColEnd (h₀ : Heap) (L : Addr) (m : Str → Option Value) (I : Addr) (oI : Obj) (nf : Obj → List (Addr × Obj)) (s₁ s₂ : Shared) : Prop :=
  ∃ h' tk o' v, s₂ = { s₁ with heap := h', toks := tk } ∧ Fr h₀ L h' m ∧ News h₀ L h' ((I, oI) :: nf o') ∧ o'.data = .cell v
def ColPost (h₀ : Heap) (L : Addr) (m : Str → Option Value) (I : Addr) (oI : Obj) (nf : Obj → List (Addr × Obj)) (s₁ : Shared) (Q : Flow → Shared → Prop) (f : Flow) (s₂ : Shared) : Prop :=
  match f with
  | .ret v => Q (.ret v) s₂
  | .brk => Q .next s₂
  | _ => ColEnd h₀ L m I oI nf s₁ s₂
theorem colEnd_ {h₀ : Heap} {L I : Addr} {m : Str → Option Value} {oI : Obj} {nf : Obj → List (Addr × Obj)} {s₁ : Shared} {h' : Heap} {tk : Nat} {all : List (Addr × Obj)} {o' : Obj} {v : Option Value} (F : Fr h₀ L h' m) (N : News h₀ L h' all) (hd : o'.data = .cell v) (sub : ∀ p ∈ (I, oI) :: nf o', p ∈ all) :
    ColEnd h₀ L m I oI nf s₁ { s₁ with heap := h', toks := tk } := ⟨h', tk, o', v, rfl, F, fun p hp => N p (sub p hp), hd⟩
section
variable {prog : Program} {w : World} {A : Around} {E : Value → Shared → Prop} {s : Shared} {env : Env} {h₀ : Heap} {target : Expr} {body : List Stmt} {Q : Flow → Shared → Prop}
theorem cols_turns {I ax c : Addr} {lo oc : Obj} {v₀ : Option Value} {m : Str → Option Value} {news : List (Addr × Obj)} {nf : Obj → List (Addr × Obj)} {P : Int → Prop} (_hc : CellIs c) (U : UpdF c oc news nf) (hd : oc.data = .cell v₀) (hlt : ∀ p ∈ news, p.1 < I) (hk : (ax, lo) ∈ news) (hac : @Ne Nat ax c)
    (turn : ∀ x t o v h tk oI, P x → o.data = .cell v → oI.cls = .type "tuple_iterator" → Fr h₀ env.locals h m → News h₀ env.locals h ((I, oI) :: nf o) →
      wpAny (model prog w) A (assign target env (.int x t)) (fun _ s₂ => wpAny (model prog w) A (execs body env) (ColPost h₀ env.locals m I oI nf { s with heap := h, toks := tk } Q) E s₂) E { s with heap := h, toks := tk })
    (done : ∀ o v h tk, o.data = .cell v → Fr h₀ env.locals h m → News h₀ env.locals h (nf o) → Q .next { s with heap := h, toks := tk }) :
    ∀ {vs : List Value} {ms : List Int}, IntsAre vs ms → (∀ x ∈ ms, P x) → ItemsRest prog w A E h₀ env target body Q s [(I, "tuple_iterator")] [(ax, lo)] (vs.map .val) m news := by
  obtain ⟨pre, post, e, hg, h1, h2⟩ := U.split
  have key : ∀ {vs : List Value} {ms : List Int}, IntsAre vs ms → (∀ x ∈ ms, P x) → ∀ (o : Obj) (v : Option Value), o.data = .cell v → ItemsRest prog w A E h₀ env target body Q s [(I, "tuple_iterator")] [(ax, lo)] (vs.map .val) m (nf o) := by
    intro vs ms hi
    induction hi with
    | nil => intro _ o v ho; exact ItemsRest.zero fun h tk F N => done o v h tk ho F N
    | @cons x t vs₂ ms₂ r ih =>
      intro hm o v ho
      refine ItemsRest.val fun h tk F => AllObj.cons fun oI hI => AllObj.nil fun N => ?_
      refine wpAny_mono (turn x t o v h tk oI (hm x (.head _)) ho hI F N) (fun _ s₂ h₂ => wpAny_mono h₂ (fun f s₃ p => ?_) fun _ _ e => e) fun _ _ e => e
      have fin : ColEnd h₀ env.locals m I oI nf { s with heap := h, toks := tk } s₃ → UnrEndW h₀ env.locals { s with heap := h, toks := tk } [(I, oI)] (fun m' n' => SubL [(ax, lo)] n' ∧ ItemsRest prog w A E h₀ env target body Q s [(I, "tuple_iterator")] [(ax, lo)] (vs₂.map Itm.val) m' n') s₃ := by
        rintro ⟨h', tk', o', v', e', F', N', hd'⟩
        refine ⟨h', tk', m, nf o', e', F', N', ?_, ⟨?_, trivial⟩, ih (fun y hy => hm y (.tail _ hy)) o' v' hd'⟩
        · intro p hp q hq
          rw [List.mem_singleton.mp hq]
          refine Nat.ne_of_lt ?_
          rw [hg] at hp
          rcases List.mem_append.mp hp with hp | hp
          · exact hlt p (by rw [e]; exact List.mem_append_left _ hp)
          · rcases List.mem_cons.mp hp with rfl | hp
            · exact hlt (c, oc) (by rw [e]; exact List.mem_append_right _ (.head _))
            · exact hlt p (by rw [e]; exact List.mem_append_right _ (.tail _ hp))
        · rw [hg]
          rw [e] at hk
          rcases List.mem_append.mp hk with hp | hp
          · exact List.mem_append_left _ hp
          · rcases List.mem_cons.mp hp with hp | hp
            · exact absurd (congrArg Prod.fst hp) hac
            · exact List.mem_append_right _ (.tail _ hp)
      cases f with
      | ret v => exact p
      | brk => exact p
      | next => exact fin p
      | cont => exact fin p
  intro vs ms hi hm
  rw [← UpdF.same U]
  exact key hi hm oc v₀ hd
end
theorem ltG_grows (col : Int) : KPfGrows (fun (l : List Int) (k : Int) => if k < col then l ++ [1] else l) := fun l k => by
  simp only []
  split
  · simp
  · omega
theorem inkG_grows : KPfGrows (fun (l : List Int) (k : Int) => if k = 9 ∨ k = 32 then l else l ++ [k]) := fun l k => by
  simp only []
  split
  · omega
  · simp
theorem inkG_fold : ∀ (ns l : List Int), ns.foldl (fun (l : List Int) (k : Int) => if k = 9 ∨ k = 32 then l else l ++ [k]) l = l ++ inked ns
  | [], l => by simp [inked]
  | n :: r, l => by
    rw [List.foldl_cons, inkG_fold r]
    by_cases h : n = 9 ∨ n = 32
    · rw [if_pos h]
      rcases h with h | h <;> subst h <;> simp [inked]
    · rw [if_neg h]
      have h1 : n ≠ 9 := fun e => h (.inl e)
      have h2 : n ≠ 32 := fun e => h (.inr e)
      simp [inked, List.filter_cons, h1, h2]
section
variable {prog : Program} {w : World} {A : Around} {h₀ : Heap} {L : Addr} {m : Str → Option Value} {env : Env} {ct elt : Expr} {x : Str} {scope : Scope} {cl : List (Str × Addr)} {s : Shared} {S : List (Addr × Obj) → Prop} {P : Nat → Value → Prop} {Fin : List Value → List (Addr × Obj) → Prop} {news : List (Addr × Obj)}
/-- the items that are ahead of a column, each told by a one -/
theorem kci_lt {col : Int} {vs : List Value} {ns : List Int} (_hc : ColIs col) (hi : IntsAre vs ns)
    (turn : ∀ k t I oI C oC D m₂ ys l h tk (E' : Value → Shared → Prop), k ∈ ns → IntsAre ys l → LCg.NsObj oC m₂ → m₂ x = some (.int k t) → Fr h₀ L h m → News h₀ L h ((I, oI) :: (C, oC) :: (D, LCg.lst ys) :: news) → LCg.Off3 I C D news → KPfMark →
      wpAny (model prog w) A (isTrue ct (compEnvC scope cl C env) (eval ct (compEnvC scope cl C env))) (fun b s' => if b = true then wpAny (model prog w) A (eval elt (compEnvC scope cl C env)) (LCg.CompEnd h₀ L m { s with heap := h, toks := tk } I oI C oC D (LCg.lst ys) S (fun y news' => KCiEl news l (if k < col then l ++ [1] else l) y news')) E' s'
        else LCg.CompEnd h₀ L m { s with heap := h, toks := tk } I oI C oC D (LCg.lst ys) S (fun _ news' => KCiNo news l (if k < col then l ++ [1] else l) news') Value.none s') E' { s with heap := h, toks := tk })
    (fin : KPfDone (∀ ys, IntsAre ys (ns.foldl (fun (l : List Int) (k : Int) => if k < col then l ++ [1] else l) []) → ys.length ≤ vs.toArray.size → Fin ys news)) : LCt.CompRestT prog w A h₀ L m env ct elt x scope cl s S (fun i v => vs.toArray[i]? = some v) Fin vs.toArray.size 0 [] news :=
  kci_list (fun (l : List Int) (k : Int) => if k < col then l ++ [1] else l) hi (fun k t I oI C oC D m₂ ys l h tk E' a b c d e f g _ i => turn k t I oI C oC D m₂ ys l h tk E' a b c d e f g i) fin (ltG_grows col)
/-- the items that are no tab and no blank -/
theorem kci_ink {vs : List Value} {ns : List Int} (hi : IntsAre vs ns)
    (turn : ∀ k t I oI C oC D m₂ ys l h tk (E' : Value → Shared → Prop), k ∈ ns → IntsAre ys l → LCg.NsObj oC m₂ → m₂ x = some (.int k t) → Fr h₀ L h m → News h₀ L h ((I, oI) :: (C, oC) :: (D, LCg.lst ys) :: news) → LCg.Off3 I C D news → KPfMark →
      wpAny (model prog w) A (isTrue ct (compEnvC scope cl C env) (eval ct (compEnvC scope cl C env))) (fun b s' => if b = true then wpAny (model prog w) A (eval elt (compEnvC scope cl C env)) (LCg.CompEnd h₀ L m { s with heap := h, toks := tk } I oI C oC D (LCg.lst ys) S (fun y news' => KCiEl news l (if k = 9 ∨ k = 32 then l else l ++ [k]) y news')) E' s'
        else LCg.CompEnd h₀ L m { s with heap := h, toks := tk } I oI C oC D (LCg.lst ys) S (fun _ news' => KCiNo news l (if k = 9 ∨ k = 32 then l else l ++ [k]) news') Value.none s') E' { s with heap := h, toks := tk })
    (fin : KPfDone (∀ ys, IntsAre ys (inked ns) → ys.length ≤ vs.toArray.size → Fin ys news)) : LCt.CompRestT prog w A h₀ L m env ct elt x scope cl s S (fun i v => vs.toArray[i]? = some v) Fin vs.toArray.size 0 [] news := by
  refine kci_list (fun (l : List Int) (k : Int) => if k = 9 ∨ k = 32 then l else l ++ [k]) hi (fun k t I oI C oC D m₂ ys l h tk E' a b c d e f g _ i => turn k t I oI C oC D m₂ ys l h tk E' a b c d e f g i) ?_ inkG_grows
  rw [inkG_fold, List.nil_append]
  exact fin
end
theorem all3 {P : Int → Prop} {a b c : Int} (ha : P a) (hb : P b) (hc : P c) : ∀ x ∈ ([a, b, c] : List Int), P x := fun x hx => by
  simp only [List.mem_cons, List.not_mem_nil, or_false] at hx
  rcases hx with rfl | rfl | rfl <;> assumption
end PV3

section PV4
theorem between_length {tab : Int} (hw : 0 < tab) (hw8 : tab ≤ 8) (first last : Int) (ns : List Int) : (betweenL tab first last ns).1.length ≤ ns.length + 16 ∧ (betweenL tab first last ns).2.1.length ≤ ns.length + 16 := by
  have a := cutL_length hw hw8 last ns
  have b := cutL_length hw hw8 first (cutL tab last ns).1
  simp only [betweenL]
  omega
theorem spread_length {tab : Int} (hw : 0 < tab) (hw8 : tab ≤ 8) : ∀ (ns : List Int) (c : Int), (spreadL tab c ns).length ≤ 8 * ns.length
  | [], c => by simp [spreadL]
  | n :: r, c => by
    have ih := spread_length hw hw8 r (colBehind c n tab)
    have b := wAt_le n c tab hw hw8
    rw [spreadL, List.length_append, List.length_cons]
    have : (if n = 9 then List.replicate (colBehind c n tab - c).toNat 32 else [n]).length ≤ 8 := by
      split
      · rw [List.length_replicate]; unfold colBehind; omega
      · simp
    omega
theorem extracted_length {tab : Int} (hw : 0 < tab) (hw8 : tab ≤ 8) {first last : Int} (hf : 0 ≤ first) (hl : last ≤ 100) {ns : List Int} (hn : ns.length ≤ 8) : (extractedL tab first last ns).length ≤ 1000 := by
  have b := between_length hw hw8 first last ns
  have c := colAt_le hw hw8 (betweenL tab first last ns).1
  have d := spread_length hw hw8 (betweenL tab first last ns).2.1 (startL tab first last ns)
  have st : first ≤ startL tab first last ns ∧ startL tab first last ns ≤ first + 192 := by unfold startL; omega
  have en : startL tab first last ns ≤ endL tab first last ns := fold_ge hw _ _
  unfold extractedL
  rw [List.length_append, List.length_append, List.length_replicate, List.length_replicate]
  omega
theorem between_law {tab : Int} (hw : 0 < tab) (first last : Int) (ns : List Int) : (lawCutL (lawCutL ns (colsOf tab ns) last).1 (colsOf tab (lawCutL ns (colsOf tab ns) last).1) first).2 = (betweenL tab first last ns).2.1 := by
  simp only [betweenL, cutL_law hw]
theorem lawOne_length {tab : Int} (hw : 0 < tab) (hw8 : tab ≤ 8) (last : Int) (ns : List Int) : (lawCutL ns (colsOf tab ns) last).1.length ≤ ns.length + 8 := by
  rw [← cutL_law hw]; exact (cutL_length hw hw8 last ns).1
theorem cols_bound {tab : Int} (hw : 0 < tab) (hw8 : tab ≤ 8) (ns : List Int) (hn : ns.length ≤ 4096) : ∀ c ∈ colsOf tab ns, 0 ≤ c ∧ c ≤ 32768 := fun c hc => by
  obtain ⟨k, hk, rfl⟩ := mem_colsOf hc
  exact ⟨colAt_nonneg hw hw8 _, colAt_take_le hw hw8 _ _ hn⟩
theorem fresh_ne {h₀ h : Heap} {L c l : Addr} {o : Obj} {news : List (Addr × Obj)} (_hc : CellIs c) (hf : h.get? l = none) (N : News h₀ L h news) (hm : (c, o) ∈ news) : @Ne Nat c l := fun e => by
  have := N.get hm
  rw [show c = l from e, hf] at this
  cases this
/-- a mark in the context: the row whose columns are asked -/
def RowIs (tab : Int) (ns : List Int) : Prop := tab = tab ∧ ns = ns
section
variable {prog : Program} {w : World} {A : Around} {h₀ : Heap} {L : Addr} {m : Str → Option Value} {env : Env} {elt : Expr} {x : Str} {scope : Scope} {cl : List (Str × Addr)} {s : Shared} {S : List (Addr × Obj) → Prop} {Fin : List Value → List (Addr × Obj) → Prop} {news : List (Addr × Obj)}
theorem kcf_cols {n : Nat} {tab : Int} {ns : List Int} (_hr : RowIs tab ns) (hn : n = ns.length + 1)
    (turn : ∀ k t I oI C oC D m₂ ys h tk (E' : Value → Shared → Prop), 0 ≤ k → k < 0 + (n : Int) → LCg.NsObj oC m₂ → m₂ x = some (.int k t) → Fr h₀ L h m → News h₀ L h ((I, oI) :: (C, oC) :: (D, LCg.lst ys) :: news) → LCg.Off3 I C D news → KPfMark →
      wpAny (model prog w) A (eval elt (compEnvC scope cl C env)) (LCg.CompEnd h₀ L m { s with heap := h, toks := tk } I oI C oC D (LCg.lst ys) S (fun y news' => KCfEl news (colAt tab (ns.take k.toNat)) y news')) E' { s with heap := h, toks := tk })
    (fin : KPfDone (∀ ys, IntsAre ys (colsOf tab ns) → Fin ys news)) : LCg.CompRest prog w A h₀ L m env elt x scope cl s S (fun i v => ∃ t, v = .int (0 + (i : Int)) t) Fin n 0 [] news := by
  refine kcf_range (fun k => colAt tab (ns.take k.toNat)) (fun k t I oI C oC D m₂ ys h tk E' a b c d e f g _ i => turn k t I oI C oC D m₂ ys h tk E' a b c d e f g i) ?_
  rw [cols_row (fun _ => rfl) n hn]
  exact fin
end
theorem menu_t {k : Int} (h : ([9, 32].any fun (x : Int) => x == k) = true) : k = 9 ∨ k = 32 := by
  simp only [List.any_cons, List.any_nil, Bool.or_false, Bool.or_eq_true, beq_iff_eq] at h
  omega
theorem menu_f {k : Int} (h : ([9, 32].any fun (x : Int) => x == k) = false) : ¬ (k = 9 ∨ k = 32) := by
  simp only [List.any_cons, List.any_nil, Bool.or_false, Bool.or_eq_false_iff, beq_eq_false_iff_ne] at h
  omega
end PV4

section PF18
set_option maxHeartbeats 2000000 in
theorem law_p12 (w : World) {s : Shared}
    {qual : Str} {body : List Stmt} {scope : Scope} {cdv : Value} (hat : LawAt w qual body scope cdv)
    {p : Program} {loose : List Str} {mean : ExcName → Option Value} {mg mb : Str → Option Value} {A₀ : Around} {base g : Heap} {L : Addr} {h₁ : Heap} {tk : Nat} {o4 : Obj} {m : Str → Option Value}
    (B : Below A₀ base [] g) (X : (Mine.hd.heap_1_39 w.params).In g) (T : Top p loose mean mg mb g)
    {li lt lv lg lr : Addr} {vi vt vv vg vr : List Value} {nr : List Int} {ki kt kv kg kr : Nat} {tab first last : Int} {tf tl : Tok} {vo : Value}
    (F : Fr g L h₁ (fun y => if y = "inner" then some (.ref li) else if y = "other" then some vo else if y = "told_here" then some (.ref lt) else if y = "columns" then some (.ref lv) else if y = "given" then some (.ref lg) else if y = "last" then some (.int last tl) else if y = "first" then some (.int first tf) else m y))
    (N : News g L h₁ [(li, listOf vi.toArray ki), (lt, listOf vt.toArray kt), (lv, listOf vv.toArray kv), (lg, listOf vg.toArray kg), (lr, listOf vr.toArray kr), (L + 1 + 1 + 1 + 1, o4)])
    (d4 : o4.data = .cell (some (.ref lr)))
    (hig : IntsAre vg nr) (hir : IntsAre vr nr) (hiv : IntsAre vv (colsOf tab nr)) (hit : IntsAre vt (extractedL tab first last nr)) (hii : IntsAre vi (betweenL tab first last nr).2.1) (htab : tab = 8 ∨ tab = 4 ∨ tab = 3)
    (hr1 : 1 ≤ nr.length) (hr8 : nr.length ≤ 8)
    (hf0 : 0 ≤ first) (hf1 : first ≤ 100) (hl0 : first ≤ last) (hl1 : last ≤ 100) :
    LawGo w g s L qual scope cdv body 12 h₁ tk := by
  w_top off
  k_with_none
  k_with "BodyEnd" => (refine bodyEnd_ (by assumption) ?_)
  k_with "FinE" => ((unfold LCg.FinE); intro D' h' tk' F' N' o1'; clear o1'; (try simp only [List.nil_append, List.cons_append] at N'); (try dsimp only))
  k_with "kmk_nums" => first
      | ((with_reducible show IntsAre (slicePick _ none (some _) none).toList _); exact kmk_upto (by l_ints) (by omega))
      | ((with_reducible show IntsAre (slicePick _ (some _) none none).toList _); exact kmk_from (by l_ints) (by omega))
  k_with "call builtin:len" => (k_here; (with_reducible show wpAny _ _ (call (Value.builtin _) [Value.ref _]) _ _ _); k_dflt (refine' kst_len ?mqk1 ?mqk2 ?mqk3 ?mqk4 ?_; (case mqk1 => k_asm); (case mqk2 => k_mem); (case mqk3 => exact IntsAre.length (by assumption)); (case mqk4 => omega)))
  k_with "CompEnd" => (k_here; k_dflt (refine' LCg.CompEnd.intro ?mqF ?mqN _ ?mqsub ?mqoff ?mqhS ?_; (case mqoff => assumption); (case mqF => k_asm); (case mqN => k_asm); (case mqsub => kcf_all); (case mqhS => first | lcg_src | assumption)))
  k_with "KCfEl" => k_dflt (exact kcf_el rfl (by with_unfolding_all rfl) (by with_unfolding_all rfl))
  k_with "eval ListComp" => (k_here; k_dflt (refine LCt.ListComp_T (F₀ := by k_asm) (by with_unfolding_all rfl) (by decide) (by rfl) (by decide) (by rfl) ?_))
  k_with "call ref" => (k_here; k_dflt (
      refine' pcall_use (row_columns_c _ _ _ _ _ _ ?mqw1 ?mqw2 ?mqi1 ?mqs1) ?mqB ?mqF ?mqX ?mqN ?mqT ?mqk ?mqpre ?mqd ?mqu ?_
      (case mqB => k_asm)
      (case mqF => k_asm)
      (case mqX => k_asm)
      (case mqN => k_asm)
      (case mqT => k_asm)
      (case mqk => first | exact rfl | assumption)
      (case mqpre => kmk_list)
      (case mqw1 => first | assumption | omega)
      (case mqw2 => first | assumption | omega)
      (case mqi1 => l_ints)
      (case mqs1 => first | assumption | omega | (simp only [List.length_append, List.length_take, List.length_drop, List.length_replicate] at *; omega))
      (case mqd => decide)
      (case mqu => decide)
      intro v' h' tk' F' N' S' P'
      obtain ⟨t', e', hc0', hc1'⟩ := P'
      subst e'
      clear S'
      try dsimp only
      try k_sweep))
  k_with "CompSrcT" => (k_here; k_dflt (
      refine LCt.CompSrcT.ledger (by rfl) (by k_asm) (by k_asm) (by k_mem) (by kcf_size) ?_; intro g'; (refine' kci_ink (by l_ints) (fun k' t' I' oI' C' oC' D' m' ys' l' h' tk' E' hk' hI' hC' hx' F' N' off' hMark' => ?_) ?_); kcf_last))
  k_with "KCiEl" => k_dflt (exact kci_el (if_neg (menu_f (by assumption))) (by with_unfolding_all rfl) (by with_unfolding_all rfl))
  k_with "KCiNo" => k_dflt (exact kci_no (if_pos (menu_t (by assumption))) (by with_unfolding_all rfl))
  k_with "compareOp NotEq ref ref" => (k_here; k_dflt (refine' ne_intsK ?mqk1 ?mqk2 ?mqk3 ?mqk4 ?mqk5 ?_; (case mqk1 => kmk_list); (case mqk2 => l_ints); (case mqk3 => kmk_list); (case mqk4 => l_ints); (case mqk5 => exact (by decide : callerA.units + 3 + 64 < cLine))))
  k_with "compareOp Eq ref ref" => (k_here; k_dflt (refine' eq_intsK ?mqk1 ?mqk2 ?mqk3 ?mqk4 ?mqk5 ?_; (case mqk1 => kmk_list); (case mqk2 => l_ints); (case mqk3 => kmk_list); (case mqk4 => l_ints); (case mqk5 => exact (by decide : callerA.units + 3 + 64 < cLine))))
  k_with "compareOp In int ref" => (k_here; k_dflt (refine' in_ints ?mqk1 ?mqk2 ?_; (case mqk1 => kmk_list); (case mqk2 => l_ints)))
  k_with "compareOp NotIn int ref" => (k_here; k_dflt (refine' notIn_ints ?mqk1 ?mqk2 ?_; (case mqk1 => kmk_list); (case mqk2 => l_ints)))
  have hK0 : True ∨ PCall w 35 [] 1 (fun _ => True) (fun _ _ _ => True) := by
    unfold PCall
    k_fill
    exact .inl trivial
  clear hK0
  have hx0 : 0 < tab := by omega
  have hx8 : tab ≤ 8 := by omega
  have hel : (extractedL tab first last nr).length ≤ 1000 := extracted_length hx0 hx8 hf0 hl1 hr8
  have hel2 : (extractedL tab first last nr).length ≤ 4096 := by omega
  have hbl : (betweenL tab first last nr).2.1.length ≤ nr.length + 16 := (between_length hx0 hx8 first last nr).2
  have hw8' : (8 : Int) ≤ 8 := by omega
  have hw0' : (0 : Int) < 8 := by omega
  obtain ⟨rfl, rfl, rfl, rfl⟩ := law_lit hat (by k_is)
  clear hat
  unfold LawGo
  try dsimp only [List.drop]
  try k_fold
  k_steps
  all_goals first
    | exact absurd (inked_extracted tab first last nr) (by assumption)
    | exact absurd (Eq.refl nr) (by assumption)
    | exact absurd (by assumption) (no_tab tab first last nr)
    | (refine ⟨congrArg Value.bool ?_⟩; rw [even_width hx0 (by assumption) (by assumption) hl0 8]; exact beq_self_eq_true _)
    | (refine ⟨congrArg Value.bool ?_⟩; exact decide_eq_true (by assumption))
    | (refine ⟨congrArg Value.bool ?_⟩; rw [decide_eq_false (by assumption)]; rfl)
end PF18

section PF17
set_option maxHeartbeats 2000000 in
theorem law_p9 (w : World) {s : Shared}
    {qual : Str} {body : List Stmt} {scope : Scope} {cdv : Value} (hat : LawAt w qual body scope cdv)
    {p : Program} {loose : List Str} {mean : ExcName → Option Value} {mg mb : Str → Option Value} {A₀ : Around} {base g : Heap} {L : Addr} {h₁ : Heap} {tk : Nat} {o1 o4 o5 : Obj} {m : Str → Option Value}
    (B : Below A₀ base [] g) (X : (Mine.hd.heap_1_39 w.params).In g) (T : Top p loose mean mg mb g)
    {lv lg lr : Addr} {vv vg vr : List Value} {nr : List Int} {kv kg kr : Nat} {tab first last : Int} {tt tf tl : Tok}
    (F : Fr g L h₁ (fun y => if y = "columns" then some (.ref lv) else if y = "given" then some (.ref lg) else if y = "last" then some (.int last tl) else if y = "first" then some (.int first tf) else m y))
    (N : News g L h₁ [(lv, listOf vv.toArray kv), (lg, listOf vg.toArray kg), (lr, listOf vr.toArray kr), (L + 1 + 1 + 1 + 1 + 1 + 1 + 1, o1), (L + 1 + 1 + 1 + 1, o4), (L + 1 + 1 + 1, o5)])
    (d1 : o1.data = .cell none) (d4 : o4.data = .cell (some (.ref lr))) (d5 : o5.data = .cell (some (.int tab tt)))
    (hlv : @Ne Nat (L + 1 + 1 + 1 + 1 + 1 + 1 + 1) lv) (hlg : @Ne Nat (L + 1 + 1 + 1 + 1 + 1 + 1 + 1) lg) (hlr : @Ne Nat (L + 1 + 1 + 1 + 1 + 1 + 1 + 1) lr)
    (hig : IntsAre vg nr) (hir : IntsAre vr nr) (hiv : IntsAre vv (colsOf tab nr)) (htab : tab = 8 ∨ tab = 4 ∨ tab = 3)
    (hr1 : 1 ≤ nr.length) (hr8 : nr.length ≤ 8)
    (hf0 : 0 ≤ first) (hf1 : first ≤ 100) (hl0 : first ≤ last) (hl1 : last ≤ 100) :
    LawGo w g s L qual scope cdv body 9 h₁ tk := by
  w_top off
  k_with_none
  k_with "BodyEnd" => (refine bodyEnd_ (by assumption) ?_)
  k_with "FinE" => ((unfold LCg.FinE); intro D' h' tk' F' N' o1'; clear o1'; (try simp only [List.nil_append, List.cons_append] at N'); (try dsimp only))
  k_with "kmk_nums" => first
      | ((with_reducible show IntsAre (slicePick _ none (some _) none).toList _); exact kmk_upto (by l_ints) (by omega))
      | ((with_reducible show IntsAre (slicePick _ (some _) none none).toList _); exact kmk_from (by l_ints) (by omega))
  k_with "call builtin:len" => (k_here; (with_reducible show wpAny _ _ (call (Value.builtin _) [Value.ref _]) _ _ _); k_dflt (refine' kst_len ?mqk1 ?mqk2 ?mqk3 ?mqk4 ?_; (case mqk1 => k_asm); (case mqk2 => k_mem); (case mqk3 => exact IntsAre.length (by assumption)); (case mqk4 => omega)))
  k_with "CompEnd" => (k_here; k_dflt (refine' LCg.CompEnd.intro ?mqF ?mqN _ ?mqsub ?mqoff ?mqhS ?_; (case mqoff => assumption); (case mqF => k_asm); (case mqN => k_asm); (case mqsub => kcf_all); (case mqhS => first | lcg_src | assumption)))
  k_with "KCfEl" => k_dflt (exact kcf_el rfl (by with_unfolding_all rfl) (by with_unfolding_all rfl))
  k_with "eval ListComp" => (k_here; k_dflt (refine LCg.ListComp_U (F₀ := by k_asm) (by with_unfolding_all rfl) (by decide) (by rfl) (by decide) (by rfl) ?_))
  k_with "execs cons" => (k_here; (with_reducible show wpAny _ _ (execs [_, _, _] _) _ _ _); refine stopHere ?_)
  k_with "call ref" => (k_here; k_dflt (
      refine' pcall_use (row_columns_c _ _ _ _ _ _ ?mqw1 ?mqw2 ?mqi1 ?mqs1) ?mqB ?mqF ?mqX ?mqN ?mqT ?mqk ?mqpre ?mqd ?mqu ?_
      (case mqB => k_asm)
      (case mqF => k_asm)
      (case mqX => k_asm)
      (case mqN => k_asm)
      (case mqT => k_asm)
      (case mqk => first | exact rfl | assumption)
      (case mqpre => kmk_list)
      (case mqw1 => first | assumption | omega)
      (case mqw2 => first | assumption | omega)
      (case mqi1 => l_ints)
      (case mqs1 => first | assumption | omega | (simp only [List.length_append, List.length_take, List.length_drop, List.length_replicate] at *; omega))
      (case mqd => decide)
      (case mqu => decide)
      intro v' h' tk' F' N' S' P'
      obtain ⟨t', e', hc0', hc1'⟩ := P'
      subst e'
      clear S'
      try dsimp only
      try k_sweep))
  k_with "call ref" => (k_here; k_dflt (
      refine' pcall_use (extracted_c _ _ _ _ _ _ _ _ _ _ ?mqw1 ?mqw2 ?mqi1 ?mqs1 ?mqw3 ?mqw4 ?mqw5 ?mqw6) ?mqB ?mqF ?mqX ?mqN ?mqT ?mqk ?mqpre ?mqd ?mqu ?_
      (case mqB => k_asm)
      (case mqF => k_asm)
      (case mqX => k_asm)
      (case mqN => k_asm)
      (case mqT => k_asm)
      (case mqk => first | exact rfl | assumption)
      (case mqpre => kmk_list)
      (case mqw1 => first | assumption | omega)
      (case mqw2 => first | assumption | omega)
      (case mqi1 => l_ints)
      (case mqs1 => first | assumption | omega | (simp only [List.length_append, List.length_take, List.length_drop, List.length_replicate] at *; omega))
      (case mqw3 => first | assumption | omega)
      (case mqw4 => first | assumption | omega)
      (case mqw5 => first | assumption | omega)
      (case mqw6 => first | assumption | omega)
      (case mqd => decide)
      (case mqu => decide)
      intro v' h' tk' F' N' S' P'
      obtain ⟨l', i', n', e', hf', hg', hI'⟩ := P'
      subst e'
      (have hne' := fresh_ne (by assumption) hf' (by k_asm) (by k_mem))
      replace N' := NewOk.more S' N' hf' hg'
      clear hf' hg'
      clear S'
      try dsimp only
      try k_sweep))
  k_with "call ref" => (k_here; k_dflt (
      refine' pcall_use (law_cut_c _ _ _ _ _ _ _ _ _ _ _ ?mqi1 ?mqi2 ?mqs1 ?mqs2 ?mqw1 ?mqw2 ?mqw3) ?mqB ?mqF ?mqX ?mqN ?mqT ?mqk ?mqpre ?mqd ?mqu ?_
      (case mqB => k_asm)
      (case mqF => k_asm)
      (case mqX => k_asm)
      (case mqN => k_asm)
      (case mqT => k_asm)
      (case mqk => first | exact rfl | assumption)
      (case mqpre => exact ⟨by kmk_list, by kmk_list⟩)
      (case mqi1 => l_ints)
      (case mqi2 => l_ints)
      (case mqs1 => first | assumption | omega | (simp only [List.length_append, List.length_take, List.length_drop, List.length_replicate] at *; omega))
      (case mqs2 => first | assumption | omega | (simp only [List.length_append, List.length_take, List.length_drop, List.length_replicate] at *; omega))
      (case mqw1 => first | assumption | omega)
      (case mqw2 => first | assumption | omega)
      (case mqw3 => first | assumption | omega)
      (case mqd => decide)
      (case mqu => decide)
      intro v' h' tk' F' N' S' P'
      obtain ⟨l', l1', l2', i1', n1', i2', n2', n', e', hf', hg', ⟨hf1', hg1', hI1'⟩, ⟨hf2', hg2', hI2'⟩⟩ := P'
      subst e'
      (have hne' := fresh_ne (by assumption) hf' (by k_asm) (by k_mem))
      (have hne1' := fresh_ne (by assumption) hf1' (by k_asm) (by k_mem))
      (have hne2' := fresh_ne (by assumption) hf2' (by k_asm) (by k_mem))
      replace N' := NewOk.more S' (NewOk.more S' (NewOk.more S' N' hf1' hg1') hf2' hg2') hf' hg'
      clear hf' hg' hf1' hf2' hg1' hg2'
      clear S'
      try dsimp only
      try k_sweep))
  k_with "CompSrc" => (k_here; (rename RowIs _ _ => hr9); k_dflt (refine LCg.CompSrc.range (by rfl) (by k_asm) (by k_asm) (by assumption) (by exact small_one (by omega) (by omega) (by omega) (by omega)) (by exact rangeSize_nat _ _) (by (rw [PySem.sizeLine_eq]; omega)) ?_; intro g'; (refine' kcf_cols hr9 ?mqhn (fun k' t' I' oI' C' oC' D' m' ys' h' tk' E' hlo' hhi' hC' hx' F' N' off' hMark' => ?_) ?_); (case mqhn => omega); kcf_last))
  have hK0 : True ∨ PCall w 35 [] 1 (fun _ => True) (fun _ _ _ => True) := by
    unfold PCall
    k_fill
    exact .inl trivial
  clear hK0
  have hx0 : 0 < tab := by omega
  have hx8 : tab ≤ 8 := by omega
  have hb1 : nr.length ≤ 3800 := by omega
  have hcl := colsOf_length tab nr
  have hcb := cols_bound hx0 hx8 nr (by omega)
  have hol := lawOne_length hx0 hx8 last nr
  have hcl2 := colsOf_length tab (lawCutL nr (colsOf tab nr) last).1
  have hcb2 := cols_bound hx0 hx8 (lawCutL nr (colsOf tab nr) last).1 (by omega)
  have hb2 : (lawCutL nr (colsOf tab nr) last).1.length ≤ 3800 := by omega
  have hb3 : (lawCutL nr (colsOf tab nr) last).1.length ≤ 4096 := by omega
  have hfa : first ≤ 1000 := by omega
  have hla : last ≤ 1000 := by omega
  have hl00 : 0 ≤ last := by omega
  have hfb : first ≤ 32768 := by omega
  have hlb : last ≤ 32768 := by omega
  have hCell : CellIs (L + 1 + 1 + 1 + 1 + 1 + 1 + 1) := Eq.refl (L + 1 + 1 + 1 + 1 + 1 + 1 + 1)
  have hRow : RowIs tab (lawCutL nr (colsOf tab nr) last).1 := ⟨rfl, rfl⟩
  obtain ⟨rfl, rfl, rfl, rfl⟩ := law_lit hat (by k_is)
  have hat' := hat
  clear hat
  unfold LawGo
  try dsimp only [List.drop]
  try k_fold
  k_steps
  unfold StopHere
  rename News _ _ _ _ => N9
  rename Fr _ _ _ _ => F9
  have hbe := between_law hx0 first last nr
  refine' law_p12 w hat' B X T (tab := tab) (nr := nr) F9 (fun q hq => N9 q ((List.forall_mem_cons.mpr ⟨?mi, List.forall_mem_cons.mpr ⟨?mt, List.forall_mem_cons.mpr ⟨?mv, List.forall_mem_cons.mpr ⟨?mg, List.forall_mem_cons.mpr ⟨?mr, List.forall_mem_cons.mpr ⟨?m4, List.forall_mem_nil _⟩⟩⟩⟩⟩⟩) q hq)) ?e4 hig hir hiv ?hit ?hii htab hr1 hr8 hf0 hf1 hl0 hl1
  (case m4 => k_mem)
  (case e4 => assumption)
  (case mi => k_mem)
  (case mt => k_mem)
  (case mv => k_mem)
  (case mg => k_mem)
  (case mr => k_mem)
  (case hit => assumption)
  (case hii => (rw [← hbe]; assumption))
end PF17

section PF16
set_option maxHeartbeats 1000000 in
theorem law_p8 (w : World) {s : Shared}
    {qual : Str} {body : List Stmt} {scope : Scope} {cdv : Value} (hat : LawAt w qual body scope cdv)
    {p : Program} {loose : List Str} {mean : ExcName → Option Value} {mg mb : Str → Option Value} {A₀ : Around} {base g : Heap} {L : Addr} {h₁ : Heap} {tk : Nat} {o1 o2 o4 o5 : Obj} {m : Str → Option Value}
    (B : Below A₀ base [] g) (X : (Mine.hd.heap_1_39 w.params).In g) (T : Top p loose mean mg mb g)
    {lv lg lr : Addr} {vv vg vr : List Value} {nr : List Int} {kv kg kr : Nat} {tab first last : Int} {tt tf tl : Tok}
    (F : Fr g L h₁ (fun y => if y = "columns" then some (.ref lv) else if y = "given" then some (.ref lg) else if y = "last" then some (.int last tl) else if y = "first" then some (.int first tf) else m y))
    (N : News g L h₁ [(lv, listOf vv.toArray kv), (lg, listOf vg.toArray kg), (lr, listOf vr.toArray kr), (L + 1 + 1 + 1 + 1 + 1 + 1 + 1, o1), (L + 1 + 1 + 1 + 1 + 1 + 1, o2), (L + 1 + 1 + 1 + 1, o4), (L + 1 + 1 + 1, o5)])
    (d1 : o1.data = .cell none) (d2 : o2.data = .cell none) (d4 : o4.data = .cell (some (.ref lr))) (d5 : o5.data = .cell (some (.int tab tt)))
    (hlv : @Ne Nat (L + 1 + 1 + 1 + 1 + 1 + 1) lv ∧ @Ne Nat (L + 1 + 1 + 1 + 1 + 1 + 1 + 1) lv) (hlg : @Ne Nat (L + 1 + 1 + 1 + 1 + 1 + 1) lg ∧ @Ne Nat (L + 1 + 1 + 1 + 1 + 1 + 1 + 1) lg) (hlr : @Ne Nat (L + 1 + 1 + 1 + 1 + 1 + 1) lr ∧ @Ne Nat (L + 1 + 1 + 1 + 1 + 1 + 1 + 1) lr)
    (hig : IntsAre vg nr) (hir : IntsAre vr nr) (hiv : IntsAre vv (colsOf tab nr)) (htab : tab = 8 ∨ tab = 4 ∨ tab = 3)
    (hr1 : 1 ≤ nr.length) (hr8 : nr.length ≤ 8)
    (hf0 : 0 ≤ first) (hf1 : first ≤ 100) (hl0 : first ≤ last) (hl1 : last ≤ 100) :
    LawGo w g s L qual scope cdv body 8 h₁ tk := by
  w_top off
  k_with_none
  k_with "BodyEnd" => (refine bodyEnd_ (by assumption) ?_)
  k_with "execs cons" => (k_here; (with_reducible show wpAny _ _ (execs [_, _, _, _, _, _] _) _ _ _); refine stopHere ?_)
  k_with "call ref" => (k_here; k_dflt (
      refine' pcall_use (place_at_c _ _ _ _ _ _ _ _ ?mqw1 ?mqi1 ?mqs1) ?mqB ?mqF ?mqX ?mqN ?mqT ?mqk ?mqpre ?mqd ?mqu ?_
      (case mqB => k_asm)
      (case mqF => k_asm)
      (case mqX => k_asm)
      (case mqN => k_asm)
      (case mqT => k_asm)
      (case mqk => first | exact rfl | assumption)
      (case mqpre => kmk_list)
      (case mqw1 => first | assumption | omega)
      (case mqi1 => l_ints)
      (case mqs1 => first | assumption | omega | (simp only [List.length_append, List.length_take, List.length_drop, List.length_replicate] at *; omega))
      (case mqd => decide)
      (case mqu => decide)
      intro v' h' tk' F' N' S' P'
      obtain ⟨t', e', hq0'⟩ := P'
      subst e'
      clear S'
      try dsimp only
      try k_sweep))
  k_with "call ref" => (k_here; k_dflt (
      refine' pcall_use (cut_at_c _ _ _ _ _ _ _ _ ?mqw1 ?mqw2 ?mqi1 ?mqs1) ?mqB ?mqF ?mqX ?mqN ?mqT ?mqk ?mqpre ?mqd ?mqu ?_
      (case mqB => k_asm)
      (case mqF => k_asm)
      (case mqX => k_asm)
      (case mqN => k_asm)
      (case mqT => k_asm)
      (case mqk => first | exact rfl | assumption)
      (case mqpre => kmk_list)
      (case mqw1 => first | assumption | omega)
      (case mqw2 => first | assumption | omega)
      (case mqi1 => l_ints)
      (case mqs1 => first | assumption | omega | (simp only [List.length_append, List.length_take, List.length_drop, List.length_replicate] at *; omega))
      (case mqd => decide)
      (case mqu => decide)
      intro v' h' tk' F' N' S' P'
      obtain ⟨⟨l', l1', l2', i1', n1', i2', n2', n', e', hf', hg', ⟨hf1', hg1', hI1'⟩, ⟨hf2', hg2', hI2'⟩⟩, hc1', hc2'⟩ := P'
      subst e'
      replace N' := NewOk.more S' (NewOk.more S' (NewOk.more S' N' hf1' hg1') hf2' hg2') hf' hg'
      clear hf' hg' hf1' hf2' hg1' hg2'
      clear S'
      try dsimp only
      try k_sweep))
  k_with "call ref" => (k_here; k_dflt (
      refine' pcall_use (law_cut_c _ _ _ _ _ _ _ _ _ _ _ ?mqi1 ?mqi2 ?mqs1 ?mqs2 ?mqw1 ?mqw2 ?mqw3) ?mqB ?mqF ?mqX ?mqN ?mqT ?mqk ?mqpre ?mqd ?mqu ?_
      (case mqB => k_asm)
      (case mqF => k_asm)
      (case mqX => k_asm)
      (case mqN => k_asm)
      (case mqT => k_asm)
      (case mqk => first | exact rfl | assumption)
      (case mqpre => exact ⟨by kmk_list, by kmk_list⟩)
      (case mqi1 => l_ints)
      (case mqi2 => l_ints)
      (case mqs1 => first | assumption | omega | (simp only [List.length_append, List.length_take, List.length_drop, List.length_replicate] at *; omega))
      (case mqs2 => first | assumption | omega | (simp only [List.length_append, List.length_take, List.length_drop, List.length_replicate] at *; omega))
      (case mqw1 => first | assumption | omega)
      (case mqw2 => first | assumption | omega)
      (case mqw3 => first | assumption | omega)
      (case mqd => decide)
      (case mqu => decide)
      intro v' h' tk' F' N' S' P'
      obtain ⟨l', l1', l2', i1', n1', i2', n2', n', e', hf', hg', ⟨hf1', hg1', hI1'⟩, ⟨hf2', hg2', hI2'⟩⟩ := P'
      subst e'
      replace N' := NewOk.more S' (NewOk.more S' (NewOk.more S' N' hf1' hg1') hf2' hg2') hf' hg'
      clear hf' hg' hf1' hf2' hg1' hg2'
      clear S'
      try dsimp only
      try k_sweep))
  k_with "eval ListComp" => (k_here; k_dflt (refine LCt.ListComp_T (F₀ := by k_asm) (by with_unfolding_all rfl) (by decide) (by rfl) (by decide) (by rfl) ?_))
  k_with "CompSrcT" => (k_here; (rename ColIs _ => hc9); k_dflt (
      refine LCt.CompSrcT.ledger (by rfl) (by k_asm) (by k_asm) (by k_mem) (by kcf_size) ?_; intro g'; (refine' kci_lt hc9 (by l_ints) (fun k' t' I' oI' C' oC' D' m' ys' l' h' tk' E' hk' hI' hC' hx' F' N' off' hMark' => ?_) ?_); kcf_last))
  k_with "KCiEl" => k_dflt (exact kci_el (if_pos (by assumption)) (by with_unfolding_all rfl) (by with_unfolding_all rfl))
  k_with "KCiNo" => k_dflt (exact kci_no (if_neg (by assumption)) (by with_unfolding_all rfl))
  k_with "CompEnd" => (k_here; k_dflt (refine' LCg.CompEnd.intro ?mqF ?mqN _ ?mqsub ?mqoff ?mqhS ?_; (case mqoff => assumption); (case mqF => k_asm); (case mqN => k_asm); (case mqsub => kcf_all); (case mqhS => first | lcg_src | assumption)))
  k_with "call builtin:len" => (k_here; (with_reducible show wpAny _ _ (call (Value.builtin _) [Value.ref _]) _ _ _); k_dflt (refine' kst_len ?mqk1 ?mqk2 ?mqk3 ?mqk4 ?_; (case mqk1 => k_asm); (case mqk2 => k_mem); (case mqk3 => exact IntsAre.length (by assumption)); (case mqk4 => omega)))
  k_with "call builtin:len" => (k_here; (with_reducible show wpAny _ _ (call (Value.builtin _) [Value.ref _]) _ _ _); k_dflt (refine' len_filt ?mqk1 ?mqk2 ?mqk3 ?mqk4 ?mqk5 ?_; (case mqk1 => k_asm); (case mqk2 => k_mem); (case mqk3 => assumption); (case mqk4 => omega); (case mqk5 => assumption)); intro q' hq' hP' hG' hG1')
  k_with "kmk_nums" => first
      | ((with_reducible show IntsAre (slicePick _ none (some _) none).toList _); exact kmk_upto (by l_ints) (by omega))
      | ((with_reducible show IntsAre (slicePick _ (some _) none none).toList _); exact kmk_from (by l_ints) (by omega))
  k_with "compareOp NotEq ref ref" => (k_here; k_dflt (refine' ne_two ?mqN ?mqmp ?mqm1 ?mqm2 ?mqmq ?mqj1 ?mqj2 ?mqi1 ?mqi2 ?mqi3 ?mqi4 ?mqhu ?_; (case mqN => k_asm); (case mqmp => k_mem); (case mqm1 => k_mem); (case mqm2 => k_mem); (case mqmq => k_mem); (case mqj1 => k_mem); (case mqj2 => k_mem); (case mqi1 => assumption); (case mqi2 => assumption); (case mqi3 => assumption); (case mqi4 => assumption); (case mqhu => first | exact (by decide : callerA.units + 3 + 64 < cLine) | (dsimp only [ktrTop]; decide))))
  k_with "pyIter ref" => (k_here; (with_reducible show wpAny _ _ (pyIter (Value.ref _)) (fun it s₂ => TurnsAt _ _ _ _ _ _ _ _ _ it s₂) _ _); (rename Fr _ _ _ _ => lF'); (rename News _ _ _ _ => lN'); (rename CellIs _ => hc8); k_dflt (
      refine' iter_tupTurns ?mqhh lF' lN' ?mqhm ?mqhc ?mqhd ?_; (case mqhh => rfl); (case mqhm => k_mem); (case mqhc => rfl); (case mqhd => rfl); intro I' hI'; (have hI2' := hI'); (k_lt hI2');
      refine' cols_turns (P := fun x => 0 ≤ x ∧ x ≤ 32768 ∧ ColIs x) hc8 ?mqU ?mqd hI' ?mqk ?mqac (fun x' t' o' v' h' tk' oI' hx' hd' hcl' F' N' => ?_) (fun o' v' h' tk' hd' F' N' => ?_) ?mqhin ?mqhP;
      (case mqU => k_updF); (case mqd => assumption); (case mqk => k_mem); (case mqac => omega); (case mqhin => exact (IntsAre.cons _ _ (IntsAre.cons _ _ (IntsAre.cons _ _ IntsAre.nil))));
      (case mqhP => exact all3 ⟨by omega, by omega, Eq.refl _⟩ ⟨by omega, by omega, Eq.refl _⟩ ⟨(getD_bound (by assumption) _).1, (getD_bound (by assumption) _).2, Eq.refl _⟩);
      (all_goals (try (obtain ⟨hx0', hx1', hCol'⟩ := hx'))); (all_goals (try dsimp only at N')); (all_goals (try clear lF' lN')); (all_goals (try dsimp only))))
  k_with "ColPost" => (dsimp only [ColPost])
  k_with "ColEnd" => (k_here; k_dflt (refine' colEnd_ ?mqF ?mqN ?mqd ?mqsub; (case mqF => k_asm); (case mqN => k_asm); (case mqd => assumption); (case mqsub => kcf_all)))
  k_with "KCfEl" => k_dflt (exact kcf_el rfl (by with_unfolding_all rfl) (by with_unfolding_all rfl))
  k_with "FinE" => ((unfold LCg.FinE); intro D' h' tk' F' N' o1'; clear o1'; (try simp only [List.nil_append, List.cons_append] at N'); (try dsimp only))
  have hK0 : True ∨ PCall w 35 [] 1 (fun _ => True) (fun _ _ _ => True) := by
    unfold PCall
    k_fill
    exact .inl trivial
  clear hK0
  have hx0 : 0 < tab := by omega
  have hx8 : tab ≤ 8 := by omega
  have hCell : CellIs (L + 1 + 1 + 1 + 1 + 1 + 1) := Eq.refl (L + 1 + 1 + 1 + 1 + 1 + 1)
  have hcl := colsOf_length tab nr
  have hb1 : nr.length ≤ 3800 := by omega
  have hb2 : nr.length ≤ 4000 := by omega
  have hb3 : nr.length ≤ 4096 := by omega
  have hcb : ∀ c ∈ colsOf tab nr, 0 ≤ c ∧ c ≤ 32768 := fun c hc => by
    obtain ⟨k, hk, rfl⟩ := mem_colsOf hc
    exact ⟨colAt_nonneg hx0 hx8 _, colAt_take_le hx0 hx8 _ _ (by omega)⟩
  obtain ⟨rfl, rfl, rfl, rfl⟩ := law_lit hat (by k_is)
  unfold LawGo
  try dsimp only [List.drop]
  try k_fold
  k_steps
  · exfalso
    rename _ = lawPlace _ _ _ => hq
    rename (_ : Int) ≠ _ => hne
    exact hne (by rw [hq, placeAt_law hx0])
  · exfalso
    rename ¬ _ = _ => hne
    exact hne (by rw [cutL_law hx0])
  · unfold StopHere
    have hat' := hat
    rename News _ _ _ _ => N9
    rename Fr _ _ _ _ => F9
    refine' law_p9 w hat' B X T (tab := tab) (nr := nr) (tt := tt) F9 (fun q hq => N9 q ((List.forall_mem_cons.mpr ⟨?mv, List.forall_mem_cons.mpr ⟨?mg, List.forall_mem_cons.mpr ⟨?mr, List.forall_mem_cons.mpr ⟨?m1, List.forall_mem_cons.mpr ⟨?m4, List.forall_mem_cons.mpr ⟨?m5, List.forall_mem_nil _⟩⟩⟩⟩⟩⟩) q hq)) ?e1 ?e4 ?e5 hlv.2 hlg.2 hlr.2 hig hir hiv htab hr1 hr8 hf0 hf1 hl0 hl1
    (case m1 => k_mem)
    (case e1 => assumption)
    (case m4 => k_mem)
    (case e4 => assumption)
    (case m5 => k_mem)
    (case e5 => assumption)
    (case mv => k_mem)
    (case mg => k_mem)
    (case mr => k_mem)
end PF16

section PF15
set_option maxHeartbeats 2000000 in
theorem law_p6 (w : World) {s : Shared}
    {qual : Str} {body : List Stmt} {scope : Scope} {cdv : Value} (hat : LawAt w qual body scope cdv)
    {p : Program} {loose : List Str} {mean : ExcName → Option Value} {mg mb : Str → Option Value} {A₀ : Around} {base g : Heap} {L : Addr} {h₁ : Heap} {tk : Nat} {o1 o2 o3 o4 o5 o6 : Obj} {m : Str → Option Value}
    (B : Below A₀ base [] g) (X : (Mine.hd.heap_1_39 w.params).In g) (T : Top p loose mean mg mb g)
    {b bd tx td lc lg lr la : Addr} {es es2 : List DictEntry} {vc vg vr va : List Value} {nr na nt pad : List Int} {n n2 kc kg kr ka : Nat} {tab first last : Int} {tt tf tl t1 t2 t3 : Tok}
    (F : Fr g L h₁ (fun y => if y = "given" then some (.ref lg) else if y = "last" then some (.int last tl) else if y = "first" then some (.int first tf) else m y))
    (N : News g L h₁ [(b, instObj 403 bd), (bd, dictOf es n), (tx, instObj 192 td), (td, dictOf es2 n2), (lc, listOf vc.toArray kc), (lg, listOf vg.toArray kg), (lr, listOf vr.toArray kr), (la, listOf va.toArray ka), (L + 1 + 1 + 1 + 1 + 1 + 1 + 1, o1), (L + 1 + 1 + 1 + 1 + 1 + 1, o2), (L + 1 + 1 + 1 + 1 + 1, o3), (L + 1 + 1 + 1 + 1, o4), (L + 1 + 1 + 1, o5), (L + 1 + 1, o6)])
    (d1 : o1.data = .cell none) (d2 : o2.data = .cell none) (d3 : o3.data = .cell (some (.ref b))) (d4 : o4.data = .cell (some (.ref lr))) (d5 : o5.data = .cell (some (.int tab tt))) (d6 : o6.data = .cell (some (.ref la)))
    (V : ViewIn bd es tx es2 lc (na ++ nr ++ nt) pad vc t1 t2 t3)
    (hlg : @Ne Nat (L + 1 + 1 + 1 + 1 + 1 + 1) lg ∧ @Ne Nat (L + 1 + 1 + 1 + 1 + 1 + 1 + 1) lg) (hlr : @Ne Nat (L + 1 + 1 + 1 + 1 + 1 + 1) lr ∧ @Ne Nat (L + 1 + 1 + 1 + 1 + 1 + 1 + 1) lr)
    (hig : IntsAre vg nr) (hia : IntsAre va na) (hir : IntsAre vr nr) (hna : na = [] ∨ na = [98, 10] ∨ na = [9, 10, 10]) (htab : tab = 8 ∨ tab = 4 ∨ tab = 3)
    (hmr : ∀ x ∈ nr, x ∈ ([97, 1, 9, 128, 127, 160, 9, 31] : List Int)) (hr1 : 1 ≤ nr.length) (hr8 : nr.length ≤ 8) (hna3 : na.length ≤ 3) (hnt : nt.length ≤ 2)
    (hf0 : 0 ≤ first) (hf1 : first ≤ 100) (hl0 : first ≤ last) (hl1 : last ≤ 100) :
    LawGo w g s L qual scope cdv body 6 h₁ tk := by
  w_top off
  k_with_none
  k_with "BodyEnd" => (refine bodyEnd_ (by assumption) ?_)
  k_with "execs cons" => (k_here; (with_reducible show wpAny _ _ (execs (Stmt.For _ _ _ _ _ :: _) _) _ _ _); refine stopHere ?_)
  k_with "call ref" => (k_here; k_dflt (
      refine' pcall_use (row_columns_c _ _ _ _ _ _ ?mqw1 ?mqw2 ?mqi1 ?mqs1) ?mqB ?mqF ?mqX ?mqN ?mqT ?mqk ?mqpre ?mqd ?mqu ?_
      (case mqB => k_asm)
      (case mqF => k_asm)
      (case mqX => k_asm)
      (case mqN => k_asm)
      (case mqT => k_asm)
      (case mqk => first | exact rfl | assumption)
      (case mqpre => kmk_list)
      (case mqw1 => first | assumption | omega)
      (case mqw2 => first | assumption | omega)
      (case mqi1 => l_ints)
      (case mqs1 => first | assumption | omega | (simp only [List.length_append, List.length_take, List.length_drop, List.length_replicate] at *; omega))
      (case mqd => decide)
      (case mqu => decide)
      intro v' h' tk' F' N' S' P'
      obtain ⟨t', e', hc0', hc1'⟩ := P'
      subst e'
      clear S'
      try dsimp only
      try k_sweep))
  k_with "call ref" => (k_here; k_dflt (
      refine' pcall_use (column_i _ _ _ _ _ _ _ _ _ _ _ _ _ _ _ _ _ _ _ _ ?mqs1 ?mqs2 ?mqs3 ?mqw1) ?mqB ?mqF ?mqX ?mqN ?mqT ?mqk ?mqpre ?mqd ?mqu ?_
      (case mqB => k_asm)
      (case mqF => k_asm)
      (case mqX => k_asm)
      (case mqN => k_asm)
      (case mqT => k_asm)
      (case mqk => first | exact rfl | assumption)
      (case mqpre => exact viewAt_of (by assumption) (by k_asm) (by k_mem) (by k_mem) (by k_mem) (by k_mem) (by k_mem))
      (case mqs1 => first | assumption | omega | (simp only [List.length_append, List.length_take, List.length_drop, List.length_replicate] at *; omega))
      (case mqs2 => first | assumption | omega | (simp only [List.length_append, List.length_take, List.length_drop, List.length_replicate] at *; omega))
      (case mqs3 => first | assumption | omega | (simp only [List.length_append, List.length_take, List.length_drop, List.length_replicate] at *; omega))
      (case mqw1 => first | assumption | omega)
      (case mqd => decide)
      (case mqu => decide)
      intro v' h' tk' F' N' S' P'
      obtain ⟨t', e'⟩ := P'
      subst e'
      clear S'
      try dsimp only
      try k_sweep))
  k_with "call builtin:len" => (k_here; (with_reducible show wpAny _ _ (call (Value.builtin _) [Value.ref _]) _ _ _); k_dflt (refine' kst_len ?mqk1 ?mqk2 ?mqk3 ?mqk4 ?_; (case mqk1 => k_asm); (case mqk2 => k_mem); (case mqk3 => exact IntsAre.length (by assumption)); (case mqk4 => omega)))
  k_with "kmk_nums" => first
      | ((with_reducible show IntsAre (slicePick _ none (some _) none).toList _); exact kmk_upto (by l_ints) (by omega))
      | ((with_reducible show IntsAre (slicePick _ (some _) none none).toList _); exact kmk_from (by l_ints) (by omega))
  k_with "CompSrc" => (k_here; k_dflt (refine LCg.CompSrc.range (by rfl) (by k_asm) (by k_asm) (by assumption) (by exact small_one (by omega) (by omega) (by omega) (by omega)) (by exact rangeSize_nat _ _) (by (rw [PySem.sizeLine_eq]; omega)) ?_; intro g'; (refine' kcf_range _ (fun k' t' I' oI' C' oC' D' m' ys' h' tk' E' hlo' hhi' hC' hx' F' N' off' ne' hMark' => ?_) ?_); (all_goals (try clear ne')); kcf_last))
  k_with "KCfEl" => k_dflt (exact kcf_el rfl (by with_unfolding_all rfl) (by with_unfolding_all rfl))
  k_with "FinE" => ((unfold LCg.FinE); intro D' h' tk' F' N' o1'; clear o1'; (try simp only [List.nil_append, List.cons_append] at N'); (try dsimp only))
  k_with "FinA" => ((unfold LCg.FinA); intro D' h' tk' F' N' o1'; (rename Cells2 _ _ => hc7); k_dflt (have hq' := off1_two hc7 o1' (by k_mem) (by k_mem)); clear o1'; (try simp only [List.nil_append, List.cons_append] at N'); (try dsimp only))
  have hK0 : True ∨ PCall w 35 [] 1 (fun _ => True) (fun _ _ _ => True) := by
    unfold PCall
    k_fill
    exact .inl trivial
  clear hK0
  have hcs : (na ++ nr ++ nt).length = na.length + nr.length + nt.length := by simp only [List.length_append]
  have hx0 : 0 < tab := by omega
  have hx8 : tab ≤ 8 := by omega
  have hTwo : Cells2 (L + 1 + 1 + 1 + 1 + 1 + 1) (L + 1 + 1 + 1 + 1 + 1 + 1 + 1) := ⟨Eq.refl (L + 1 + 1 + 1 + 1 + 1 + 1), Eq.refl (L + 1 + 1 + 1 + 1 + 1 + 1 + 1)⟩
  have hten : ∀ x ∈ nr, x ≠ 10 := fun x hx e => absurd (hmr x hx) (by rw [e]; decide)
  have hlast : na = [] ∨ na.getD (na.length - 1) 0 = 10 := by rcases hna with h | h | h <;> rw [h] <;> first | exact .inl rfl | exact .inr rfl
  have hcv := cols_view (tab := tab) (t := nt) (g := fun k' => viewCol tab (na ++ nr ++ nt) ((na.length : Int) + 1 + k' - 1).toNat) hlast hten (fun k _ _ => by rw [show (na.length : Int) + 1 + k - 1 = na.length + k by omega]) ((nr.length : Int) + 1 - 0).toNat (by omega)
  have hcr := cols_row (tab := tab) (r := nr) (g := fun k' => colAt tab (nr.take k'.toNat)) (fun _ => rfl) ((nr.length : Int) + 1 - 0).toNat (by omega)
  obtain ⟨rfl, rfl, rfl, rfl⟩ := law_lit hat (by k_is)
  unfold LawGo
  try dsimp only [List.drop]
  try k_fold
  k_steps
  · unfold StopHere
    have hat' := hat
    rename News _ _ _ _ => N9
    rename Fr _ _ _ _ => F9
    refine' law_p8 w hat' B X T (tab := tab) (nr := nr) (tt := tt) F9 (fun q hq => N9 q ((List.forall_mem_cons.mpr ⟨?mv, List.forall_mem_cons.mpr ⟨?mg, List.forall_mem_cons.mpr ⟨?mr, List.forall_mem_cons.mpr ⟨?m1, List.forall_mem_cons.mpr ⟨?m2, List.forall_mem_cons.mpr ⟨?m4, List.forall_mem_cons.mpr ⟨?m5, List.forall_mem_nil _⟩⟩⟩⟩⟩⟩⟩) q hq)) ?e1 ?e2 ?e4 ?e5 ?hlv hlg hlr hig hir ?hiv htab hr1 hr8 hf0 hf1 hl0 hl1
    (case m1 => k_mem)
    (case e1 => assumption)
    (case m2 => k_mem)
    (case e2 => assumption)
    (case m4 => k_mem)
    (case e4 => assumption)
    (case m5 => k_mem)
    (case e5 => assumption)
    (case mv => k_mem)
    (case mg => k_mem)
    (case mr => k_mem)
    (case hlv => assumption)
    (case hiv => (rw [← hcv]; assumption))
  · exact absurd (hcr.trans hcv.symm) (by assumption)
end PF15

section PV0
/-- two addresses differ; kept from omega, which splits at each such fact -/
def NeA (a b : Addr) : Prop := @Ne Nat a b
theorem NeA.out {a b : Addr} (h : NeA a b) : a ≠ b := h
theorem NeA.tuo {a b : Addr} (h : NeA a b) : b ≠ a := Ne.symm h
theorem off1_at {D : Addr} : ∀ {l : List (Addr × Obj)}, LCg.Off1 D l → ∀ p ∈ l, NeA p.1 D
  | [], _, _, h => nomatch h
  | _ :: _, x, p, h => by
    rcases List.mem_cons.mp h with rfl | h
    · exact x.1
    · exact off1_at x.2 p h
def AllNe (D : Addr) : List (Addr × Obj) → Prop
  | [] => True
  | p :: r => NeA p.1 D ∧ AllNe D r
theorem allNe_of {D : Addr} : ∀ {l : List (Addr × Obj)}, LCg.Off1 D l → AllNe D l
  | [], _ => trivial
  | _ :: _, x => ⟨x.1, allNe_of x.2⟩
/-- all addresses of a ledger lie ahead of D; kept from omega -/
def LtAll (D : Addr) (news : List (Addr × Obj)) : Prop := ∀ p ∈ news, p.1 < D
theorem ltAll_of {D : Addr} {news : List (Addr × Obj)} (h : ∀ p ∈ news, p.1 < D) : LtAll D news := h
theorem LtAll.ne {D a : Addr} {o : Obj} {news : List (Addr × Obj)} (h : LtAll D news) (m : (a, o) ∈ news) : a ≠ D := Nat.ne_of_lt (h _ m)
theorem LtAll.en {D a : Addr} {o : Obj} {news : List (Addr × Obj)} (h : LtAll D news) (m : (a, o) ∈ news) : D ≠ a := Ne.symm (h.ne m)
theorem ltAll_trans {d x : Addr} {news : List (Addr × Obj)} (l : LtAll d news) (h : d < x) : LtAll x news := fun p hp => Nat.lt_trans (l p hp) h
theorem neA_of {a b : Addr} (h : a < b) : NeA a b := Nat.ne_of_lt h
/-- d is none of the addresses as; kept from omega -/
def NeAll (d : Addr) (as : List Addr) : Prop := ∀ a ∈ as, a ≠ d
theorem neAll_of {d : Addr} {as : List Addr} (h : ∀ a ∈ as, a ≠ d) : NeAll d as := h
theorem NeAll.out {d a : Addr} {as : List Addr} (h : NeAll d as) (m : a ∈ as) : a ≠ d := h a m
theorem NeAll.tuo {d a : Addr} {as : List Addr} (h : NeAll d as) (m : a ∈ as) : d ≠ a := Ne.symm (h a m)
/-- x is one of two addresses; kept from omega -/
def EitherA (x a b : Addr) : Prop := x = a ∨ x = b
theorem eitherA_of {x a b : Addr} (h : @Eq Nat x a ∨ @Eq Nat x b) : EitherA x a b := h
theorem EitherA.ne {x a b d : Addr} (h : EitherA x a b) (h1 : a ≠ d) (h2 : b ≠ d) : x ≠ d := by
  rcases h with rfl | rfl
  · exact h1
  · exact h2
theorem EitherA.en {x a b d : Addr} (h : EitherA x a b) (h1 : d ≠ a) (h2 : d ≠ b) : d ≠ x := by
  rcases h with rfl | rfl
  · exact h1
  · exact h2
abbrev ent (w : World) (x : Str) (t : Tok) (v : Value) : DictEntry := { hash := PyData.keyHash w.params x, key := .str x t, val := v }
section
variable {prog : Program} {w : World} {A : Around} {h₀ : Heap} {L : Addr} {m : Str → Option Value} {env : Env} {elt : Expr} {x : Str} {scope : Scope} {cl : List (Str × Addr)} {s : Shared} {S : List (Addr × Obj) → Prop} {P : Nat → Value → Prop} {Fin : List Value → List (Addr × Obj) → Prop} {news : List (Addr × Obj)}
/-- comp_draw, the comprehension's own objects told apart from the deck -/
theorem comp_drawA {d c : Addr} {oc : Obj} {nf : Obj → List (Addr × Obj)} (menu : List Int) {n : Nat} {vs : List Value} {ns : List Int} {n' : Nat} (hcl : cl.lookup ("deck" : Str) = some c) (hc : (c, oc) ∈ news) (hd : oc.data = .cell (some (.ref d))) (U : UpdF d (listOf vs.toArray n') news nf) (hi : IntsAre vs ns) (hl : ns.length ≤ 40)
    (turn : ∀ I oI C oC D m₂ ys h tk (E' : Value → Shared → Prop) vs ns n', IntsAre vs ns → ns.length ≤ 40 → LCg.NsObj oC m₂ → Fr h₀ L h m → News h₀ L h ((I, oI) :: (C, oC) :: (D, LCg.lst ys) :: nf (listOf (List.toArray vs) n')) → LCg.Off3 I C D (nf (listOf (List.toArray vs) n')) → NeA d I → NeA d C → NeA d D → KPfMark →
      wpAny (model prog w) A (eval elt (compEnvC scope cl C env)) (LCg.CompEnd h₀ L m { s with heap := h, toks := tk } I oI C oC D (LCg.lst ys) S (fun y news' => DrawEl d nf menu y news')) E' { s with heap := h, toks := tk })
    (fin : ∀ ys xs vs' ns' n', IntsAre ys xs → (∀ x ∈ xs, x ∈ menu) → xs.length = n → IntsAre vs' ns' → ns'.length ≤ 40 → Fin ys (nf (listOf (List.toArray vs') n'))) : LCg.CompRest prog w A h₀ L m env elt x scope cl s S P Fin n 0 [] news := by
  obtain ⟨pre, post, e, hg, h1, h2⟩ := U.split
  refine comp_draw menu hcl hc hd U hi hl (fun I oI C oC D m₂ ys h tk E' vs ns n' a b c' d' e' off _ mk => ?_) fin
  have z := off.mem (d, listOf vs.toArray n') (by rw [hg]; exact List.mem_append_right _ (.head _))
  exact turn I oI C oC D m₂ ys h tk E' vs ns n' a b c' d' e' off z.1 z.2.1 z.2.2 mk
end
/-- sorted of an empty dict: a fresh empty list -/
theorem sorted_empty {prog : Program} {w : World} {A : Around} {E : Value → Shared → Prop} {s : Shared} {h₀ : Heap} {L d : Addr} {m : Str → Option Value} {news : List (Addr × Obj)} {Q : Value → Shared → Prop} (hh : A.handled = none) (F : Fr h₀ L s.heap m) (N : News h₀ L s.heap news)
    (Ta : TabAt (PySem.intKind prog w) PyData.int s.heap d []) (h : ∀ B c h' tk, Fr h₀ L h' m → News h₀ L h' ((B, listOf #[] c) :: news) → (∀ q ∈ news, q.1 < B) → Q (.ref B) { s with heap := h', toks := tk }) : wpAny (model prog w) A (call (.builtin "sorted") [.ref d]) Q E s := by
  refine kdu_sortedD (knd := PySem.intKind prog w) (enc := PyData.int) (fun _ _ => kdl_flat_int) hh F N Ta (Nat.zero_le _) ?_
  intro B h' tk F' N' l1
  refine ksk_lsort (A := A.in1) (vs := []) (ns := []) (news' := fun o => (B, o) :: news) F' N' (fun o => Upd.head fun p hp => Nat.ne_of_lt (l1 p hp)) rfl .nil (by decide) ?_
  intro vs' ns' c h'' F2 N2 I e _ _ _
  have e' : ns' = [] := List.eq_nil_of_length_eq_zero e
  subst e'
  cases I
  exact h B c h'' tk F2 N2 l1
end PV0

section PS1
/-- a store into a slice by ones of a list, of a list's items: the model's text walked once -/
theorem setItem_slice {prog : Program} {w : World} {A : Around} {E : Value → Shared → Prop} {s : Shared} {l b sl : Addr} {items new : Array Value} {n nb : Nat} {vl vu : Value} {lo hi : Option Int} {Q : Unit → Shared → Prop}
    (ho : s.heap.get? l = some (listOf items n)) (hb : s.heap.get? b = some (listOf new nb)) (hs : s.heap.IsSliceOf sl vl vu .none) (pl : IsPart vl lo) (pu : IsPart vu hi)
    (hlb0 : l ≠ b) (hz : items.size ≤ 2 ^ 20) (hz2 : new.size ≤ 2 ^ 20)
    (hQ : Q () { s with heap := s.heap.update l (Obj.mapSeq fun xs => xs.extract 0 (sliceBounds lo hi none items.size).1.toNat ++ new ++ xs.extract (max (sliceBounds lo hi none items.size).1 (sliceBounds lo hi none items.size).2.1).toNat xs.size) }) :
    wpAny (model prog w) A (setItem (.ref l) (.ref sl) (.ref b)) Q E s := by
  have hl : s.heap.IsList l items := PySem.IsL.isList (n := n) ho
  have hlb : s.heap.IsList b new := PySem.IsL.isList (n := nb) hb
  obtain ⟨os, hos, hcs, hds⟩ := id hs
  have hTs : s.TypeIs (.ref sl) "slice" := ⟨os, hos, hcs⟩
  unfold setItem
  try with_reducible refine wpAny_holding ?_
  first | refine wpAny_bind (wpAny_pure ?_) | skip
  refine wpAny_bind (wpAny_sequenceKey hl.typeIs (by decide) ?_)
  refine wpAny_bind (wpAny_callSpecial?_slot (name := Str.ofString "__setitem__") hl.typeIs slot_list_setitem
    (wpAny_call_entry slot_list_setitem hl.typeIs entry_list_setitem ?_ (args_list_setitem _ _ _)))
  show wpAny _ _ (Builtin.List.listSubscript? (.ref sl) >>= _) _ _ s
  refine wpAny_bind ?_
  unfold Builtin.List.listSubscript?
  refine wpAny_bind (wpAny_specialOf hTs slice_no_index ?_)
  simp only [Option.isNone_none, if_true]
  refine wpAny_pure ?_
  show wpAny _ _ (typeOf (.ref sl) >>= _) _ _ s
  refine wpAny_bind (wpAny_typeOf hTs ?_)
  rw [if_neg (by decide)]
  rw [listSliceParts_eq]
  refine wpAny_bind (wpAny_bind (wpAny_field hos hds (x := .none) rfl (wpAny_bind (wpAny_listPart .none ?_))))
  rw [if_neg (show ¬ ((rawPart none == rawInt 0) = true) from Bool.false_ne_true)]
  refine wpAny_bind (wpAny_field hos hds (x := vl) rfl (wpAny_bind (wpAny_listPart pl ?_)))
  refine wpAny_bind (wpAny_field hos hds (x := vu) rfl (wpAny_bind (wpAny_listPart pu (wpAny_pure ?_))))
  have hne : Builtin.List.listSameRef (Value.ref l) (Value.ref b) = false := by
    show (l == b) = false
    simpa using hlb0
  rw [hne]
  simp only [Bool.false_eq_true, if_false]
  refine wpAny_bind ?_
  unfold Builtin.List.listAllItems
  refine wpAny_bind (wpAny_typeOf hlb.typeIs ?_)
  rw [if_pos (by decide)]
  unfold Builtin.List.listItems
  refine wpAny_bind (wpAny_seqItems hb rfl (wpAny_pure ?_))
  refine wpAny_bind (wpAny_bind (wpAny_seqItems ho rfl (wpAny_pure ?_)))
  refine wpAny_bind (wpAny_of_eq (sliceIndices_raw lo hi none items.size (by simp)) ?_)
  rw [if_pos (show ((sliceBounds lo hi none items.size).2.2 == 1) = true from rfl)]
  refine wpAny_bind (wpAny_rule ?_)
  rw [if_neg (by simp [Builtin.List.listTooLong, sizeLine]; omega)]
  refine wpAny_bind ?_
  show wpAny _ _ (updateSeq l _) _ _ s
  refine wpAny_updateSeq ho rfl ?_ (by simp [sizeLine]; omega) (by simp [sizeLine]; omega)
  refine wpAny_bind (wpAny_letGo ?_)
  exact wpAny_pure ⟨.none, rfl, wpAny_pure hQ⟩

theorem sb_clip {lo hi : Int} {n : Nat} (h0 : 0 ≤ lo) (h1 : lo ≤ n) (h2 : 0 ≤ hi) (h3 : hi ≤ n) : sliceBounds (some lo) (some hi) none n = (lo, hi, 1) := by
  simp only [sliceBounds, Option.getD_none, show (1 : Int) > 0 by decide, if_true, if_neg (show ¬ (lo < 0) by omega), if_neg (show ¬ (hi < 0) by omega)]
  congr 1
  · omega
  · congr 1
    omega

/-- on the ledger: the items of l from lo to hi go, those of b come -/
theorem setSlice_ints {prog : Program} {w : World} {A : Around} {E : Value → Shared → Prop} {s : Shared} {h₀ : Heap} {L l b sl : Addr} {m : Str → Option Value} {news : List (Addr × Obj)} {nf : Obj → List (Addr × Obj)} {vs us : List Value} {ns ms : List Int} {n nb : Nat} {tl tu : Tok} {lo hi : Int} {Q : Unit → Shared → Prop}
    (F : Fr h₀ L s.heap m) (N : News h₀ L s.heap news) (U : UpdF l (listOf vs.toArray n) news nf) (hb : (b, listOf us.toArray nb) ∈ news) (hne : @Ne Nat l b) (hs : s.heap.IsSliceOf sl (.int lo tl) (.int hi tu) .none)
    (hi1 : IntsAre vs ns) (hi2 : IntsAre us ms) (h0 : 0 ≤ lo) (h1 : lo ≤ hi) (h3 : hi ≤ ns.length) (hz : ns.length ≤ 2 ^ 20) (hz2 : ms.length ≤ 2 ^ 20)
    (h : ∀ ws n' h', Fr h₀ L h' m → News h₀ L h' (nf (listOf (List.toArray ws) n')) → IntsAre ws (ns.take lo.toNat ++ ms ++ ns.drop hi.toNat) → Q () { s with heap := h' }) :
    wpAny (model prog w) A (setItem (.ref l) (.ref sl) (.ref b)) Q E s := by
  obtain ⟨pre, post, e, hg, a, c⟩ := U.split
  have hm : (l, listOf vs.toArray n) ∈ news := by rw [e]; exact List.mem_append_right _ (.head _)
  have l1 := hi1.length
  have l2 := hi2.length
  refine setItem_slice (N.get hm) (N.get hb) hs (.int _ _) (.int _ _) hne (by simpa using by omega) (by simpa using by omega) ?_
  have hsb : sliceBounds (some lo) (some hi) none vs.toArray.size = (lo, hi, 1) := sb_clip h0 (by simp; omega) (by omega) (by simp; omega)
  rw [hsb]
  simp only []
  rw [show max lo hi = hi by omega]
  have N' : News h₀ L s.heap (pre ++ (l, listOf vs.toArray n) :: post) := e ▸ N
  have z := N' (l, listOf vs.toArray n) (List.mem_append_right _ (.head _))
  have ef : (fun xs : Array Value => xs.extract 0 lo.toNat ++ us.toArray ++ xs.extract hi.toNat) vs.toArray = (vs.take lo.toNat ++ us ++ vs.drop hi.toNat).toArray := by
    apply Array.toList_inj.mp
    simp
    rw [List.take_of_length_le (by simp)]
  have N2 := ki_turn (fun xs : Array Value => xs.extract 0 lo.toNat ++ us.toArray ++ xs.extract hi.toNat) (n' := if (vs.take lo.toNat ++ us ++ vs.drop hi.toNat).toArray.size == vs.toArray.size then n else n + 1) N' a c ef rfl
  rw [← hg] at N2
  exact h _ _ _ (F.change (Heap.SameBut.update ..) z.2.1 z.2.2) N2 (IntsAre.append (IntsAre.append (hi1.take _) hi2) (hi1.drop _))
theorem setSlice_at {prog : Program} {w : World} {A : Around} {E : Value → Shared → Prop} {s : Shared} {h₀ : Heap} {L l b : Addr} {m : Str → Option Value} {news : List (Addr × Obj)} {nf : Obj → List (Addr × Obj)} {vs us : List Value} {ns ms : List Int} {n nb : Nat} {tl tu : Tok} {lo hi : Int} {Q : Unit → Shared → Prop}
    (F : Fr h₀ L s.heap m) (N : News h₀ L s.heap news) (U : UpdF l (listOf vs.toArray n) news nf) (hb : (b, listOf us.toArray nb) ∈ news) (hne : @Ne Nat l b)
    (hi1 : IntsAre vs ns) (hi2 : IntsAre us ms) (h0 : 0 ≤ lo) (h1 : lo ≤ hi) (h3 : hi ≤ ns.length) (hz : ns.length ≤ 2 ^ 20) (hz2 : ms.length ≤ 2 ^ 20)
    (h : ∀ ws n' h', Fr h₀ L h' m → News h₀ L h' (nf (listOf (List.toArray ws) n')) → IntsAre ws (ns.take lo.toNat ++ ms ++ ns.drop hi.toNat) → Q () { s with heap := h' }) :
    wpAny (model prog w) A (setItem (.ref l) (.ref s.heap.objs.size) (.ref b)) Q E { s with heap := s.heap.push { cls := .type "slice", data := .fields #[.int lo tl, .int hi tu, .none] } } :=
  setSlice_ints (s := { s with heap := s.heap.push { cls := .type "slice", data := .fields #[.int lo tl, .int hi tu, .none] } }) (F.push _) (N.grown fun _ _ e => Heap.get?_push_of_some _ e) U hb hne (Heap.IsSliceOf.new ..) hi1 hi2 h0 h1 h3 hz hz2 h
/-- the same, where the new items' number alone is asked for -/
theorem setSlice_some {prog : Program} {w : World} {A : Around} {E : Value → Shared → Prop} {s : Shared} {h₀ : Heap} {L l b : Addr} {m : Str → Option Value} {news : List (Addr × Obj)} {nf : Obj → List (Addr × Obj)} {vs us : List Value} {ns ms : List Int} {n nb : Nat} {tl tu : Tok} {lo hi : Int} {Q : Unit → Shared → Prop}
    (F : Fr h₀ L s.heap m) (N : News h₀ L s.heap news) (U : UpdF l (listOf vs.toArray n) news nf) (hb : (b, listOf us.toArray nb) ∈ news) (hne : l ≠ b)
    (hi1 : IntsAre vs ns) (hi2 : IntsAre us ms) (h0 : 0 ≤ lo) (h1 : lo = hi) (h3 : hi ≤ ns.length) (hz : ns.length ≤ 2 ^ 20) (hz2 : ms.length ≤ 2 ^ 20)
    (h : ∀ ws n' h' (ks : List Int), Fr h₀ L h' m → News h₀ L h' (nf (listOf (List.toArray ws) n')) → IntsAre ws ks → ks.length = ns.length + ms.length → Q () { s with heap := h' }) :
    wpAny (model prog w) A (setItem (.ref l) (.ref s.heap.objs.size) (.ref b)) Q E { s with heap := s.heap.push { cls := .type "slice", data := .fields #[.int lo tl, .int hi tu, .none] } } :=
  setSlice_at F N U hb hne hi1 hi2 h0 (Int.le_of_eq h1) h3 hz hz2 fun ws n' h' F' N' I' => h ws n' h' _ F' N' I' (by
    subst h1
    simp only [List.length_append, List.length_take, List.length_drop]; omega)
/-- the same, of a text of three parts put at the beginning -/
theorem setSlice_text {prog : Program} {w : World} {A : Around} {E : Value → Shared → Prop} {s : Shared} {h₀ : Heap} {L l b : Addr} {m : Str → Option Value} {news : List (Addr × Obj)} {nf : Obj → List (Addr × Obj)} {vs us : List Value} {ns a1 a2 a3 : List Int} {n nb : Nat} {tl tu : Tok} {lo hi : Int} {Q : Unit → Shared → Prop}
    (F : Fr h₀ L s.heap m) (N : News h₀ L s.heap news) (U : UpdF l (listOf vs.toArray n) news nf) (hb : (b, listOf us.toArray nb) ∈ news) (hne : l ≠ b)
    (hi1 : IntsAre vs ns) (hi2 : IntsAre us (a1 ++ a2 ++ a3)) (h0 : lo = 0) (h1 : 0 ≤ hi) (h3 : hi ≤ ns.length) (hz : ns.length ≤ 2 ^ 20) (hz2 : (a1 ++ a2 ++ a3).length ≤ 2 ^ 20)
    (h : ∀ ws n' h' (pad : List Int), Fr h₀ L h' m → News h₀ L h' (nf (listOf (List.toArray ws) n')) → IntsAre ws (a1 ++ a2 ++ a3 ++ pad) → Q () { s with heap := h' }) :
    wpAny (model prog w) A (setItem (.ref l) (.ref s.heap.objs.size) (.ref b)) Q E { s with heap := s.heap.push { cls := .type "slice", data := .fields #[.int lo tl, .int hi tu, .none] } } :=
  setSlice_at F N U hb hne hi1 hi2 (Int.le_of_eq h0.symm) (by omega) h3 hz hz2 fun ws n' h' F' N' I' => h ws n' h' (ns.drop hi.toNat) F' N' (by
    subst h0
    simpa only [Int.toNat_zero, List.take_zero, List.nil_append] using I')
theorem kmk_void {vs : List Value} {ns : List Int} {x y : Int} (hi' : IntsAre vs ns) (h : 0 ≤ x) (e : y = x) : IntsAre (slicePick vs.toArray (some x) (some y) none).toList ([] : List Int) := by
  subst e
  have z := kmk_run hi' h h
  rwa [show min y.toNat ns.length - y.toNat = 0 by omega, List.take_zero] at z
end PS1

section PM1
set_option maxHeartbeats 1000000 in
theorem numbers_c (w : World) (mk rw : Addr) (om : Obj) (es : List DictEntry) (n : Nat) (h1 : getL "rows" es = some (some (.ref rw))) :
    PCall w 217 [.ref mk] 2 (fun h => InstAt h mk om 262 (some (dictOf es n)) ∧ TabAt (PySem.intKind PySem.Challenge.rw_rg0137_01.row.prog w) PyData.int h rw []) (fun g h v => FreshL g h [] v) := by
  w_top off
  k_with_none
  k_with "BodyEnd" => (refine bodyEnd_ (by assumption) ?_)
  k_with "k_inst" => exact instAt_keeps (by assumption) (Fr.keep (by k_asm))
  k_with "k_get" => assumption
  k_with "call builtin:sorted" => (k_here; k_dflt (refine' sorted_empty ?mqhh ?mqF ?mqN ?mqT ?_; (case mqhh => rfl); (case mqF => k_asm); (case mqN => k_asm); (case mqT => first | assumption | exact TabAt.keep (by assumption) (Fr.keep (by k_asm)))); intro D' c' h' tk' F' N' l1; (try k_lt l1); (try k_sweep))
  try (unfold PCall; k_fill; fail)
  refine' pcall_of (binds := [("self", .ref mk)]) ?k6 ?k7 ?k9 ?kB ?c2 ?c3 ?c4 ?c5 ?c6 ?_
  (case k6 => k_is)
  (case k7 => k_is)
  (case k9 => intro _; exact BindsTo.of_eq rfl)
  (case c5 => decide)
  (case kB => exact locs rfl)
  (case c2 => exact rfl)
  (case c3 => exact rfl)
  (case c4 => exact rfl)
  (case c6 => decide)
  intro p loose mean mg mb dp un gd outer A₀ base g L h₁ s B F N X T hpre hd hu
  try dsimp only
  try k_fold
  obtain ⟨hI, hT1⟩ := hpre
  k_steps
  all_goals exact ⟨freshL_of (items := []) (by assumption) (by k_mem) .nil rfl⟩
set_option maxHeartbeats 1000000 in
theorem inserted_c (w : World) (mk rw : Addr) (om : Obj) (es : List DictEntry) (n : Nat) (a b : Int) (t1 t2 : Tok) (f : Bool) (h1 : getL "rows" es = some (some (.ref rw))) (h2 : getL "numbers" es = some none) :
    PCall w 245 [.ref mk, .int a t1, .int b t2, .bool f] 3 (fun h => InstAt h mk om 262 (some (dictOf es n)) ∧ TabAt (PySem.intKind PySem.Challenge.rw_rg0137_01.row.prog w) PyData.int h rw []) (fun _ _ v => v = .none) := by
  w_top off
  k_with_none
  k_with "BodyEnd" => (refine bodyEnd_ (by assumption) ?_)
  k_with "k_inst" => exact instAt_keeps (by assumption) (Fr.keep (by k_asm))
  k_with "k_get" => assumption
  k_with "call builtin:sorted" => (k_here; k_dflt (refine' sorted_empty ?mqhh ?mqF ?mqN ?mqT ?_; (case mqhh => rfl); (case mqF => k_asm); (case mqN => k_asm); (case mqT => first | assumption | exact TabAt.keep (by assumption) (Fr.keep (by k_asm)))); intro D' c' h' tk' F' N' l1; (try k_lt l1); (try k_sweep))
  k_with "call ref" => (k_here; k_dflt (
      refine' pcall_use (numbers_c _ _ _ _ _ _ (by assumption)) ?mqB ?mqF ?mqX ?mqN ?mqT ?mqk ?mqpre ?mqd ?mqu ?_
      (case mqB => k_asm)
      (case mqF => k_asm)
      (case mqX => k_asm)
      (case mqN => k_asm)
      (case mqT => k_asm)
      (case mqk => first | exact rfl | assumption)
      (case mqpre => exact ⟨instAt_keeps (by assumption) (Fr.keep (by k_asm)), TabAt.keep (by assumption) (Fr.keep (by k_asm))⟩)
      (case mqd => first | omega | ktr_room)
      (case mqu => first | omega | ktr_units)
      intro v' h' tk' F' N' S' P'
      obtain ⟨l', i', n', e', hf', hg', hI'⟩ := P'
      subst e'
      cases hI'
      replace N' := NewOk.more S' N' hf' hg'
      clear hf' hg'
      clear S'
      try dsimp only
      try k_sweep))
  try (unfold PCall; k_fill; fail)
  refine' pcall_of (binds := [("self", .ref mk), ("start", .int a t1), ("end", .int b t2), ("is_before", .bool f)]) ?k6 ?k7 ?k9 ?kB ?c2 ?c3 ?c4 ?c5 ?c6 ?_
  (case k6 => k_is)
  (case k7 => k_is)
  (case k9 => intro _; exact BindsTo.of_eq rfl)
  (case c5 => decide)
  (case kB => exact locs rfl)
  (case c2 => exact rfl)
  (case c3 => exact rfl)
  (case c4 => exact rfl)
  (case c6 => decide)
  intro p loose mean mg mb dp un gd outer A₀ base g L h₁ s B F N X T hpre hd hu
  try dsimp only
  try k_fold
  obtain ⟨hI, hT1⟩ := hpre
  k_steps
  all_goals exact ⟨rfl⟩
set_option maxHeartbeats 1000000 in
theorem writable_c (w : World) (b : Addr) (ob : Obj) (es : List DictEntry) (n : Nat) (h1 : getL "is_read_only" es = some (some (.bool false))) :
    PCall w 432 [.ref b] 1 (fun h => InstAt h b ob 403 (some (dictOf es n))) (fun _ _ v => v = .none) := by
  w_top off
  k_with_none
  k_with "BodyEnd" => (refine bodyEnd_ (by assumption) ?_)
  k_with "k_inst" => exact instAt_keeps (by assumption) (Fr.keep (by k_asm))
  k_with "k_get" => assumption
  k_with "call builtin:sorted" => (k_here; k_dflt (refine' sorted_empty ?mqhh ?mqF ?mqN ?mqT ?_; (case mqhh => rfl); (case mqF => k_asm); (case mqN => k_asm); (case mqT => first | assumption | exact TabAt.keep (by assumption) (Fr.keep (by k_asm)))); intro D' c' h' tk' F' N' l1; (try k_lt l1); (try k_sweep))
  k_with "call ref" => (k_here; k_dflt (
      refine' pcall_use (numbers_c _ _ _ _ _ _ (by assumption)) ?mqB ?mqF ?mqX ?mqN ?mqT ?mqk ?mqpre ?mqd ?mqu ?_
      (case mqB => k_asm)
      (case mqF => k_asm)
      (case mqX => k_asm)
      (case mqN => k_asm)
      (case mqT => k_asm)
      (case mqk => first | exact rfl | assumption)
      (case mqpre => exact ⟨instAt_keeps (by assumption) (Fr.keep (by k_asm)), TabAt.keep (by assumption) (Fr.keep (by k_asm))⟩)
      (case mqd => first | omega | ktr_room)
      (case mqu => first | omega | ktr_units)
      intro v' h' tk' F' N' S' P'
      obtain ⟨l', i', n', e', hf', hg', hI'⟩ := P'
      subst e'
      cases hI'
      replace N' := NewOk.more S' N' hf' hg'
      clear hf' hg'
      clear S'
      try dsimp only
      try k_sweep))
  try (unfold PCall; k_fill; fail)
  refine' pcall_of (binds := [("buffer", .ref b)]) ?k6 ?k7 ?k9 ?kB ?c2 ?c3 ?c4 ?c5 ?c6 ?_
  (case k6 => k_is)
  (case k7 => k_is)
  (case k9 => intro _; exact BindsTo.of_eq rfl)
  (case c5 => decide)
  (case kB => exact locs rfl)
  (case c2 => exact rfl)
  (case c3 => exact rfl)
  (case c4 => exact rfl)
  (case c6 => decide)
  intro p loose mean mg mb dp un gd outer A₀ base g L h₁ s B F N X T hpre hd hu
  try dsimp only
  try k_fold
  have hI := hpre
  k_steps
  all_goals exact ⟨rfl⟩
set_option maxHeartbeats 1000000 in
theorem hung_c (w : World) (b : Addr) (ob : Obj) (es : List DictEntry) (n : Nat) (x y : Int) (t1 t2 : Tok) (f : Bool) (h1 : getL "props" es = some (some .none)) (h2 : getL "overlays" es = some (some .none)) :
    PCall w 474 [.ref b, .int x t1, .int y t2, .bool f] 1 (fun h => InstAt h b ob 403 (some (dictOf es n))) (fun _ _ v => v = .none) := by
  w_top off
  k_with_none
  k_with "BodyEnd" => (refine bodyEnd_ (by assumption) ?_)
  k_with "k_inst" => exact instAt_keeps (by assumption) (Fr.keep (by k_asm))
  k_with "k_get" => assumption
  k_with "call builtin:sorted" => (k_here; k_dflt (refine' sorted_empty ?mqhh ?mqF ?mqN ?mqT ?_; (case mqhh => rfl); (case mqF => k_asm); (case mqN => k_asm); (case mqT => first | assumption | exact TabAt.keep (by assumption) (Fr.keep (by k_asm)))); intro D' c' h' tk' F' N' l1; (try k_lt l1); (try k_sweep))
  k_with "call ref" => (k_here; k_dflt (
      refine' pcall_use (numbers_c _ _ _ _ _ _ (by assumption)) ?mqB ?mqF ?mqX ?mqN ?mqT ?mqk ?mqpre ?mqd ?mqu ?_
      (case mqB => k_asm)
      (case mqF => k_asm)
      (case mqX => k_asm)
      (case mqN => k_asm)
      (case mqT => k_asm)
      (case mqk => first | exact rfl | assumption)
      (case mqpre => exact ⟨instAt_keeps (by assumption) (Fr.keep (by k_asm)), TabAt.keep (by assumption) (Fr.keep (by k_asm))⟩)
      (case mqd => first | omega | ktr_room)
      (case mqu => first | omega | ktr_units)
      intro v' h' tk' F' N' S' P'
      obtain ⟨l', i', n', e', hf', hg', hI'⟩ := P'
      subst e'
      cases hI'
      replace N' := NewOk.more S' N' hf' hg'
      clear hf' hg'
      clear S'
      try dsimp only
      try k_sweep))
  try (unfold PCall; k_fill; fail)
  refine' pcall_of (binds := [("buffer", .ref b), ("place", .int x t1), ("many", .int y t2), ("before_markers", .bool f)]) ?k6 ?k7 ?k9 ?kB ?c2 ?c3 ?c4 ?c5 ?c6 ?_
  (case k6 => k_is)
  (case k7 => k_is)
  (case k9 => intro _; exact BindsTo.of_eq rfl)
  (case c5 => decide)
  (case kB => exact locs rfl)
  (case c2 => exact rfl)
  (case c3 => exact rfl)
  (case c4 => exact rfl)
  (case c6 => decide)
  intro p loose mean mg mb dp un gd outer A₀ base g L h₁ s B F N X T hpre hd hu
  try dsimp only
  try k_fold
  have hI := hpre
  k_steps
  all_goals exact ⟨rfl⟩
end PM1

section PM2
set_option maxHeartbeats 1000000 in
theorem reached_c (w : World) (b : Addr) (ob : Obj) (es : List DictEntry) (n : Nat) (x y : Int) (t1 t2 u4 u5 : Tok) (hx : x = 1) (hy : y = 1) (h1 : getL "begv" es = some (some (.int 1 u4))) (h2 : getL "zv" es = some (some (.int 1 u5))) :
    PCall w 446 [.ref b, .int x t1, .int y t2] 1 (fun h => InstAt h b ob 403 (some (dictOf es n))) (fun _ _ _ => True) := by
  w_top off
  k_with_none
  k_with "BodyEnd" => (refine bodyEnd_ (by assumption) ?_)
  k_with "k_inst" => exact instAt_keeps (by assumption) (Fr.keep (by k_asm))
  k_with "k_get" => assumption
  subst hx
  subst hy
  try (unfold PCall; k_fill; fail)
  refine' pcall_of (binds := [("buffer", .ref b), ("start", .int 1 t1), ("end", .int 1 t2)]) ?k6 ?k7 ?k9 ?kB ?c2 ?c3 ?c4 ?c5 ?c6 ?_
  (case k6 => k_is)
  (case k7 => k_is)
  (case k9 => intro _; exact BindsTo.of_eq rfl)
  (case c5 => decide)
  (case kB => exact locs rfl)
  (case c2 => exact rfl)
  (case c3 => exact rfl)
  (case c4 => exact rfl)
  (case c6 => decide)
  intro p loose mean mg mb dp un gd outer A₀ base g L h₁ s B F N X T hpre hd hu
  try dsimp only
  try k_fold
  have hI := hpre
  k_steps
  all_goals exact ⟨trivial⟩
set_option maxHeartbeats 1000000 in
theorem ahead_c (w : World) (b ls : Addr) (ob : Obj) (es : List DictEntry) (n : Nat) (x y : Int) (t1 t2 : Tok) (h1 : getL "listeners" es = some (some (.ref ls))) :
    PCall w 453 [.ref b, .int x t1, .int y t2] 1 (fun h => InstAt h b ob 403 (some (dictOf es n)) ∧ h.IsList ls #[]) (fun _ _ v => v = .none) := by
  w_top off
  k_with_none
  k_with "BodyEnd" => (refine bodyEnd_ (by assumption) ?_)
  k_with "k_inst" => exact instAt_keeps (by assumption) (Fr.keep (by k_asm))
  k_with "k_get" => assumption
  try (unfold PCall; k_fill; fail)
  refine' pcall_of (binds := [("buffer", .ref b), ("start", .int x t1), ("end", .int y t2)]) ?k6 ?k7 ?k9 ?kB ?c2 ?c3 ?c4 ?c5 ?c6 ?_
  (case k6 => k_is)
  (case k7 => k_is)
  (case k9 => intro _; exact BindsTo.of_eq rfl)
  (case c5 => decide)
  (case kB => exact locs rfl)
  (case c2 => exact rfl)
  (case c3 => exact rfl)
  (case c4 => exact rfl)
  (case c6 => decide)
  intro p loose mean mg mb dp un gd outer A₀ base g L h₁ s B F N X T hpre hd hu
  try dsimp only
  try k_fold
  obtain ⟨hI, hL⟩ := hpre
  k_steps
  all_goals exact ⟨rfl⟩
set_option maxHeartbeats 1000000 in
theorem size_c (w : World) (tx lc : Addr) (ot : Obj) (es : List DictEntry) (n : Nat) (vc : List Value) (ks : List Int) (v2 v3 : Tok) (hi : IntsAre vc ks) (hl : ks.length = 8) (h1 : getL "gap_start" es = some (some (.int 0 v2))) (h2 : getL "gap_end" es = some (some (.int 8 v3))) (h3 : getL "cells" es = some (some (.ref lc))) :
    PCall w 126 [.ref tx] 1 (fun h => InstAt h tx ot 192 (some (dictOf es n)) ∧ h.IsList lc vc.toArray) (fun _ _ v => ∃ t, v = .int 0 t) := by
  w_top off
  k_with_none
  k_with "BodyEnd" => (refine bodyEnd_ (by assumption) ?_)
  k_with "k_inst" => exact instAt_keeps (by assumption) (Fr.keep (by k_asm))
  k_with "k_get" => assumption
  try (unfold PCall; k_fill; fail)
  refine' pcall_of (binds := [("self", .ref tx)]) ?k6 ?k7 ?k9 ?kB ?c2 ?c3 ?c4 ?c5 ?c6 ?_
  (case k6 => k_is)
  (case k7 => k_is)
  (case k9 => intro _; exact BindsTo.of_eq rfl)
  (case c5 => decide)
  (case kB => exact locs rfl)
  (case c2 => exact rfl)
  (case c3 => exact rfl)
  (case c4 => exact rfl)
  (case c6 => decide)
  intro p loose mean mg mb dp un gd outer A₀ base g L h₁ s B F N X T hpre hd hu
  try dsimp only
  try k_fold
  obtain ⟨hI, hL⟩ := hpre
  have hlen := hi.length
  k_steps
  all_goals exact ⟨⟨_, congrArg (fun i => Value.int i _) (by omega)⟩⟩
set_option maxHeartbeats 1000000 in
theorem bsize_c (w : World) (b tx lc : Addr) (ob ot : Obj) (es es2 : List DictEntry) (n n2 : Nat) (vc : List Value) (ks : List Int) (v2 v3 : Tok) (hi : IntsAre vc ks) (hl : ks.length = 8) (h1 : getL "gap_start" es2 = some (some (.int 0 v2))) (h2 : getL "gap_end" es2 = some (some (.int 8 v3))) (h3 : getL "cells" es2 = some (some (.ref lc)))
    (h4 : getL "text" es = some (some (.ref tx))) (h5 : getL "size" es2 = some none) :
    PCall w 351 [.ref b] 2 (fun h => InstAt h b ob 403 (some (dictOf es n)) ∧ InstAt h tx ot 192 (some (dictOf es2 n2)) ∧ h.IsList lc vc.toArray) (fun _ _ v => ∃ t, v = .int 0 t) := by
  w_top off
  k_with_none
  k_with "BodyEnd" => (refine bodyEnd_ (by assumption) ?_)
  k_with "k_inst" => exact instAt_keeps (by assumption) (Fr.keep (by k_asm))
  k_with "k_get" => assumption
  k_with "call ref" => (k_here; k_dflt (
      refine' pcall_use (size_c _ _ _ _ _ _ _ _ _ _ (by assumption) (by assumption) (by assumption) (by assumption) (by assumption)) ?mqB ?mqF ?mqX ?mqN ?mqT ?mqk ?mqpre ?mqd ?mqu ?_
      (case mqB => k_asm)
      (case mqF => k_asm)
      (case mqX => k_asm)
      (case mqN => k_asm)
      (case mqT => k_asm)
      (case mqk => first | exact rfl | assumption)
      (case mqpre => exact ⟨instAt_keeps (by assumption) (Fr.keep (by k_asm)), stays_list (Fr.keep (by k_asm)) (by assumption)⟩)
      (case mqd => first | omega | ktr_room)
      (case mqu => first | omega | ktr_units)
      intro v' h' tk' F' N' S' P'
      obtain ⟨t', e'⟩ := P'
      subst e'
      clear S'
      try dsimp only
      try k_sweep))
  try (unfold PCall; k_fill; fail)
  refine' pcall_of (binds := [("self", .ref b)]) ?k6 ?k7 ?k9 ?kB ?c2 ?c3 ?c4 ?c5 ?c6 ?_
  (case k6 => k_is)
  (case k7 => k_is)
  (case k9 => intro _; exact BindsTo.of_eq rfl)
  (case c5 => decide)
  (case kB => exact locs rfl)
  (case c2 => exact rfl)
  (case c3 => exact rfl)
  (case c4 => exact rfl)
  (case c6 => decide)
  intro p loose mean mg mb dp un gd outer A₀ base g L h₁ s B F N X T hpre hd hu
  try dsimp only
  try k_fold
  obtain ⟨hI, hI2, hL⟩ := hpre
  k_steps
  all_goals exact ⟨⟨_, rfl⟩⟩
set_option maxHeartbeats 1000000 in
theorem room_c (w : World) (b tx lc : Addr) (ob ot : Obj) (es es2 : List DictEntry) (n n2 : Nat) (vc : List Value) (ks : List Int) (v2 v3 t : Tok) (x : Int) (hx0 : 0 ≤ x) (hx : x ≤ 100) (hi : IntsAre vc ks) (hl : ks.length = 8) (h1 : getL "gap_start" es2 = some (some (.int 0 v2))) (h2 : getL "gap_end" es2 = some (some (.int 8 v3))) (h3 : getL "cells" es2 = some (some (.ref lc)))
    (h4 : getL "text" es = some (some (.ref tx))) (h5 : getL "size" es2 = some none) (h6 : getL "size" es = some none) :
    PCall w 439 [.ref b, .int x t] 3 (fun h => InstAt h b ob 403 (some (dictOf es n)) ∧ InstAt h tx ot 192 (some (dictOf es2 n2)) ∧ h.IsList lc vc.toArray) (fun _ _ v => v = .none) := by
  w_top off
  k_with_none
  k_with "BodyEnd" => (refine bodyEnd_ (by assumption) ?_)
  k_with "k_inst" => exact instAt_keeps (by assumption) (Fr.keep (by k_asm))
  k_with "k_get" => assumption
  k_with "call ref" => (k_here; k_dflt (
      refine' pcall_use (size_c _ _ _ _ _ _ _ _ _ _ (by assumption) (by assumption) (by assumption) (by assumption) (by assumption)) ?mqB ?mqF ?mqX ?mqN ?mqT ?mqk ?mqpre ?mqd ?mqu ?_
      (case mqB => k_asm)
      (case mqF => k_asm)
      (case mqX => k_asm)
      (case mqN => k_asm)
      (case mqT => k_asm)
      (case mqk => first | exact rfl | assumption)
      (case mqpre => exact ⟨instAt_keeps (by assumption) (Fr.keep (by k_asm)), stays_list (Fr.keep (by k_asm)) (by assumption)⟩)
      (case mqd => first | omega | ktr_room)
      (case mqu => first | omega | ktr_units)
      intro v' h' tk' F' N' S' P'
      obtain ⟨t', e'⟩ := P'
      subst e'
      clear S'
      try dsimp only
      try k_sweep))
  k_with "call ref" => (k_here; k_dflt (
      refine' pcall_use (bsize_c _ _ _ _ _ _ _ _ _ _ _ _ _ _ (by assumption) (by assumption) (by assumption) (by assumption) (by assumption) (by assumption) (by assumption)) ?mqB ?mqF ?mqX ?mqN ?mqT ?mqk ?mqpre ?mqd ?mqu ?_
      (case mqB => k_asm)
      (case mqF => k_asm)
      (case mqX => k_asm)
      (case mqN => k_asm)
      (case mqT => k_asm)
      (case mqk => first | exact rfl | assumption)
      (case mqpre => exact ⟨instAt_keeps (by assumption) (Fr.keep (by k_asm)), instAt_keeps (by assumption) (Fr.keep (by k_asm)), stays_list (Fr.keep (by k_asm)) (by assumption)⟩)
      (case mqd => first | omega | ktr_room)
      (case mqu => first | omega | ktr_units)
      intro v' h' tk' F' N' S' P'
      obtain ⟨t', e'⟩ := P'
      subst e'
      clear S'
      try dsimp only
      try k_sweep))
  try (unfold PCall; k_fill; fail)
  refine' pcall_of (binds := [("buffer", .ref b), ("growth", .int x t)]) ?k6 ?k7 ?k9 ?kB ?c2 ?c3 ?c4 ?c5 ?c6 ?_
  (case k6 => k_is)
  (case k7 => k_is)
  (case k9 => intro _; exact BindsTo.of_eq rfl)
  (case c5 => decide)
  (case kB => exact locs rfl)
  (case c2 => exact rfl)
  (case c3 => exact rfl)
  (case c4 => exact rfl)
  (case c6 => decide)
  intro p loose mean mg mb dp un gd outer A₀ base g L h₁ s B F N X T hpre hd hu
  try dsimp only
  try k_fold
  obtain ⟨hI, hI2, hL⟩ := hpre
  k_steps
  all_goals exact ⟨rfl⟩
end PM2

section PN1
/-- the objects os stand at the addresses of ds -/
def StandAt (h : Heap) : List (Addr × Obj) → List Obj → Prop
  | [], [] => True
  | d :: ds, o :: os => h.get? d.1 = some o ∧ StandAt h ds os
  | _, _ => False
/-- how a body ends that turns the objects ds alone of what stood -/
def BodyEndN (g : Heap) (s : Shared) (ds : List (Addr × Obj)) (post : List Obj → Value → Prop) (v : Value) (s' : Shared) : Prop :=
  ∃ h' tk os, s' = { s with heap := h', toks := tk } ∧ g.StaysIn h' ∧ StandAt h' ds os ∧ post os v
theorem bodyEndN_ {g : Heap} {s : Shared} {L : Addr} {m : Str → Option Value} {ds : List (Addr × Obj)} {post : List Obj → Value → Prop} {v : Value} {h' : Heap} {tk : Nat} {os : List Obj} (F : Fr g L h' m) (hs : StandAt h' ds os) (hp : PostIs (post os v)) :
    BodyEndN g s ds post v { s with heap := h', toks := tk } := ⟨h', tk, os, rfl, F.keep, hs, hp.out⟩
/-- a contract of a def that turns the objects ds alone of what stood -/
def NCall (w : World) (f : Addr) (vs : List Value) (dep : Nat) (ds : List (Addr × Obj)) (post : List Obj → Value → Prop) : Prop :=
  ∀ (p : Program) (loose : List Str) (mean : ExcName → Option Value) (mg mb : Str → Option Value) (dp un : Nat) (gd : Option (List Code)) (cn : Str) (cs : Scope) (a : Addr) (ccd : Value) (cl : List (Str × Addr)) (outer : List Env) (A₀ : Around) (base h₀ : Heap) (L : Addr) (m : Str → Option Value) (s : Shared) (Q E : Value → Shared → Prop),
    Below A₀ base outer h₀ → Fr h₀ L s.heap m → (Mine.hd.heap_1_39 w.params).In h₀ → Top p loose mean mg mb h₀ → cs.kind = .function → News h₀ L s.heap ds →
    dp + dep < recursionLimit → un + 8 * dep < cLine →
    (∀ v h' tk os, Fr h₀ L h' m → (∀ b ob, b ∉ ds.map (·.1) → s.heap.get? b = some ob → h'.get? b = some ob) → StandAt h' ds os → post os v → Q v { s with heap := h', toks := tk }) →
    wpAny (model PySem.Challenge.rw_rg0137_01.row.prog w) (ktrTop dp un gd cn cs L a ccd cl outer) (call (.ref f) vs) Q E s

theorem ncall_of {w : World} {f : Addr} {vs : List Value} {dep : Nat} {ds : List (Addr × Obj)} {post : List Obj → Value → Prop}
    {name qual : Str} {params : Arguments} {body : List Stmt} {scope : Scope} {dV kV doc pm cdv ct oc : Value} {an od : Option Addr} {osl : Array (Option Value)} {binds : List (Str × Value)}
    (ho : (Mine.hd.heap_1_39 w.params).lookup f = some ⟨oc, od, .func (fnOf name qual params body scope dV kV doc pm an cdv ct), osl⟩) (hcd : codeIn (Mine.hd.heap_1_39 w.params) cdv qual = true)
    (hbind : ∀ s, BindsTo s (fnOf name qual params body scope dV kV doc pm an cdv ct) ⟨vs, []⟩ binds) (hloc : ∀ y ∈ binds, scope.names.lookup y.1 = some .local)
    (hco : scope.isCoroutine = false) (hgen : scope.isGenerator = false) (hk : scope.kind = .function) (hcell : ∀ x ∈ scope.names, x.2 ≠ .cell) (hd1 : 1 ≤ dep)
    (h : ∀ (p : Program) (loose : List Str) (mean : ExcName → Option Value) (mg mb : Str → Option Value) (dp un : Nat) (gd : Option (List Code)) (outer : List Env) (A₀ : Around) (base g : Heap) (L : Addr) (h₁ : Heap) (s : Shared),
      Below A₀ base outer g → Fr g L h₁ (fun y => binds.reverse.lookup y) → News g L h₁ ds → (Mine.hd.heap_1_39 w.params).In g → Top p loose mean mg mb g →
      dp + dep < recursionLimit + 1 → un + 8 * dep < cLine + 3 →
      wpAny (model PySem.Challenge.rw_rg0137_01.row.prog w) (ktrTop dp un gd qual scope L f cdv [] outer) (execs body (envOf qual scope L f cdv))
        (fun fl s' => BodyEndN g s ds post (match fl with | .ret v => v | _ => .none) s') (fun _ _ => False) { s with heap := h₁ }) :
    NCall w f vs dep ds post := by
  intro p loose mean mg mb dp un gd cn cs a ccd cl outer A₀ base h₀ L m s Q E B F X T hck N hdp hun hret
  refine wpAny_call ?_
  obtain ⟨FG, BG, st, lv⟩ := groundX (A := ktrTop dp un gd cn cs L a ccd cl outer) (R := fun r s' => match r with | .ok (.ret v) => Q v s' | .ok _ => False | .error e => E e s') B F N rfl rfl hck
  refine codeAny_call_def (fd := fnOf name qual params body scope dV kV doc pm an cdv ct) (body := body) (binds := binds) ?_ ((X.keeps F.keep) _ _ ho) rfl (T.nolimit.keeps F.keep) (codeRec_of (X.keeps F.keep) hcd) rfl (hbind s) hcell hloc (fun h₁ hns hk₁ => ?_) hco hgen hk
  · show dp < recursionLimit
    omega
  refine wpAny_mono (h p loose mean mg mb (dp + 1) (un + 3) gd _ _ base _ s.heap.objs.size h₁ { s with toks := s.toks + binds.length } BG ⟨hns, fun b o e => hk₁ b o (of_hideAll _ e), Nat.le_of_eq (hideAll_size _ _)⟩
    (fun p hp => ⟨hk₁ _ _ (N p hp).1, Nat.ne_of_lt (Heap.lt_size (N p hp).1), hideAll_none _ (List.mem_map_of_mem hp)⟩) (X.keeps st) (T.keeps st) (by omega) (by omega)) (fun fl s' hl => ?_) fun _ _ y => y.elim
  obtain ⟨h', tk, os, rfl, k, hs, hp⟩ := hl
  have kk : ∀ b ob, b ∉ ds.map (·.1) → s.heap.get? b = some ob → h'.get? b = some ob := fun b ob hb e => k _ _ (hideAll_get _ e hb)
  have nm : ∀ b o, h₀.get? b = some o → b ∉ ds.map (·.1) := fun b o e q => by
    obtain ⟨p, hp, rfl⟩ := List.mem_map.mp q
    rw [(N p hp).2.2] at e; cases e
  refine hret _ _ _ _ ⟨?_, fun b o e => kk b o (nm b o e) (F.keep b o e), F.above⟩ kk hs hp
  obtain ⟨oL, es, ep, hL, hLd, hLk, hLf⟩ := F.ns
  exact ⟨oL, es, ep, kk _ _ (fun q => by
    obtain ⟨p, hp, e⟩ := List.mem_map.mp q
    exact (N p hp).2.1 e) hL, hLd, hLk, hLf⟩
/-- the new ledger behind such a call -/
def newLed : List (Addr × Obj) → List Obj → List (Addr × Obj) → List (Addr × Obj)
  | d :: ds, o :: os, rest => (d.1, o) :: newLed ds os rest
  | _, _, rest => rest
theorem newLed_ok {h₀ h h' : Heap} {L : Addr} {rest : List (Addr × Obj)} (hr : News h₀ L h' rest) : ∀ {ds : List (Addr × Obj)} {os : List Obj}, News h₀ L h ds → StandAt h' ds os → News h₀ L h' (newLed ds os rest)
  | [], [], _, _ => hr
  | [], _ :: _, _, x => (show False from x).elim
  | _ :: _, [], _, x => (show False from x).elim
  | d :: ds, o :: os, N, x => fun p hp => by
    rcases List.mem_cons.mp hp with rfl | hp
    · exact ⟨x.1, (N d (.head _)).2⟩
    · exact newLed_ok hr (fun q hq => N q (.tail _ hq)) x.2 p hp
theorem ncall_use {w : World} {f : Addr} {vs : List Value} {dep : Nat} {ds : List (Addr × Obj)} {post : List Obj → Value → Prop} (C : NCall w f vs dep ds post)
    {p : Program} {loose : List Str} {mean : ExcName → Option Value} {mg mb : Str → Option Value} {dp un : Nat} {gd : Option (List Code)} {cn : Str} {cs : Scope} {a : Addr} {ccd : Value} {cl : List (Str × Addr)} {outer : List Env} {A₀ : Around} {base h₀ : Heap} {L : Addr} {m : Str → Option Value} {s : Shared} {Q E : Value → Shared → Prop} {news : List (Addr × Obj)}
    (B : Below A₀ base outer h₀) (F : Fr h₀ L s.heap m) (X : (Mine.hd.heap_1_39 w.params).In h₀) (N : News h₀ L s.heap news) (T : Top p loose mean mg mb h₀) (hk : cs.kind = .function)
    (rest : List (Addr × Obj)) (hds : ∀ p ∈ ds, p ∈ news) (hrest : ∀ p ∈ rest, p ∈ news) (hoff : ∀ p ∈ rest, ∀ q ∈ ds, p.1 ≠ q.1)
    (hd : dp + dep < recursionLimit) (hu : un + 8 * dep < cLine)
    (h : ∀ v h' tk os, Fr h₀ L h' m → News h₀ L h' (newLed ds os rest) → post os v → Q v { s with heap := h', toks := tk }) :
    wpAny (model PySem.Challenge.rw_rg0137_01.row.prog w) (ktrTop dp un gd cn cs L a ccd cl outer) (call (.ref f) vs) Q E s :=
  C p loose mean mg mb dp un gd cn cs a ccd cl outer A₀ base h₀ L m s Q E B F X T hk (fun q hq => N q (hds q hq)) hd hu fun v h' tk os F' kk hs hp =>
    h v h' tk os F' (newLed_ok (fun q hq => ⟨kk _ _ (fun z => by
      obtain ⟨d, hd', e⟩ := List.mem_map.mp z
      exact hoff q hq d hd' e.symm) (N q (hrest q hq)).1, (N q (hrest q hq)).2⟩) (fun q hq => N q (hds q hq)) hs) hp
/-- a mark in the context: what a call leaves as it stands -/
def RestIs (rest : List (Addr × Obj)) : Prop := rest = rest
theorem ncall_useR {w : World} {f : Addr} {vs : List Value} {dep : Nat} {ds : List (Addr × Obj)} {post : List Obj → Value → Prop} (C : NCall w f vs dep ds post)
    {p : Program} {loose : List Str} {mean : ExcName → Option Value} {mg mb : Str → Option Value} {dp un : Nat} {gd : Option (List Code)} {cn : Str} {cs : Scope} {a : Addr} {ccd : Value} {cl : List (Str × Addr)} {outer : List Env} {A₀ : Around} {base h₀ : Heap} {L : Addr} {m : Str → Option Value} {s : Shared} {Q E : Value → Shared → Prop} {news rest : List (Addr × Obj)} (_hr : RestIs rest)
    (B : Below A₀ base outer h₀) (F : Fr h₀ L s.heap m) (X : (Mine.hd.heap_1_39 w.params).In h₀) (N : News h₀ L s.heap news) (T : Top p loose mean mg mb h₀) (hk : cs.kind = .function)
    (hds : ∀ p ∈ ds, p ∈ news) (hrest : ∀ p ∈ rest, p ∈ news) (hoff : ∀ p ∈ rest, ∀ q ∈ ds, p.1 ≠ q.1)
    (hd : dp + dep < recursionLimit) (hu : un + 8 * dep < cLine)
    (h : ∀ v h' tk os, Fr h₀ L h' m → News h₀ L h' (newLed ds os rest) → post os v → Q v { s with heap := h', toks := tk }) :
    wpAny (model PySem.Challenge.rw_rg0137_01.row.prog w) (ktrTop dp un gd cn cs L a ccd cl outer) (call (.ref f) vs) Q E s :=
  ncall_use C B F X N T hk rest hds hrest hoff hd hu h
end PN1

section PK
local macro_rules | `(tactic| k_lt $h:ident) => `(tactic| (replace $h := ltAll_of $h))
section PN2
theorem neA_obj {h₀ h : Heap} {L a b : Addr} {o o' : Obj} {news : List (Addr × Obj)} (N : News h₀ L h news) (ha : (a, o) ∈ news) (hb : (b, o') ∈ news) (hne : o ≠ o') : NeA a b := fun e => by
  have h1 := N.get ha
  have h2 := N.get hb
  rw [show a = b from e, h2] at h1
  exact hne (Option.some.inj h1).symm
theorem neA_cls {h₀ h : Heap} {L a b : Addr} {o o' : Obj} {news : List (Addr × Obj)} (N : News h₀ L h news) (ha : (a, o) ∈ news) (hb : (b, o') ∈ news) (hne : o.cls ≠ o'.cls) : NeA a b := neA_obj N ha hb fun e => hne (congrArg Obj.cls e)
abbrev textEs (w : World) (lc : Addr) (p1 p2 p3 p4 v1 v2 v3 : Tok) (gs ge : Int) : List DictEntry := [ent w "room" p1 (.int 8 v1), ent w "cells" p2 (.ref lc), ent w "gap_start" p3 (.int gs v2), ent w "gap_end" p4 (.int ge v3)]
set_option maxHeartbeats 1000000 in
theorem widen_c (w : World) (tx td lc : Addr) (vc : List Value) (ks : List Int) (kc : Nat) (p1 p2 p3 p4 v1 v2 v3 t : Tok) (n : Int) (hn0 : 0 ≤ n) (hn1 : n ≤ 100) (hi : IntsAre vc ks) (hl : ks.length = 8) :
    NCall w 154 [.ref tx, .int n t] 1 [(tx, instObj 192 td), (td, dictOf (textEs w lc p1 p2 p3 p4 v1 v2 v3 0 8) 4), (lc, listOf vc.toArray kc)]
      (fun os v => ∃ ge v3' vc' kc' ks', os = [instObj 192 td, dictOf (textEs w lc p1 p2 p3 p4 v1 v2 v3' 0 ge) 4, listOf (List.toArray vc') kc'] ∧ IntsAre vc' ks' ∧ (ks'.length : Int) = ge ∧ n ≤ ge ∧ 8 ≤ ge ∧ ge ≤ 1000 ∧ v = .none) := by
  w_top off
  k_with_none
  k_with "k_ne" => first | with_reducible_and_instances (first | exact LtAll.ne (by assumption) (by k_mem) | exact LtAll.en (by assumption) (by k_mem) | exact NeA.out (by assumption) | exact NeA.tuo (by assumption)) | (refine neN ?_; (try dsimp only); omega)
  k_with "binaryOp Mult ref int" => (k_here; k_dflt (refine' mul_one ?mqF ?mqN ?mql ?mqlo ?mqhi ?_; (case mqF => k_asm); (case mqN => k_asm); (case mql => k_mem); (case mqlo => omega); (case mqhi => omega)); intro D' ws' h' F' N' l1 hI'; (try k_lt l1); (try k_sweep))
  k_with "setItem ref ref" => (k_here; k_dflt (refine' setSlice_some ?mqF ?mqN ?mqU ?mqb ?mqne ?mqi1 ?mqi2 ?mqh0 ?mqh1 ?mqh3 ?mqz ?mqz2 ?_; (case mqF => k_asm); (case mqN => k_asm); (case mqU => k_updF); (case mqb => k_mem); (case mqne => k_ne); (case mqi1 => l_ints); (case mqi2 => l_ints); (case mqh0 => omega); (case mqh1 => omega); (case mqh3 => omega); (case mqz => omega); (case mqz2 => ((try simp only [List.length_nil, List.length_replicate]); omega))); intro ws' n' h' ks' F' N' hI' hk'; (try simp only [List.length_nil, List.length_replicate] at hk'); (try dsimp only at N'); (try k_sweep))
  try (unfold NCall; k_fill; fail)
  refine' ncall_of (binds := [("self", .ref tx), ("wanted", .int n t)]) ?k6 ?k7 ?k9 ?kB ?c2 ?c3 ?c4 ?c5 ?c6 ?_
  (case k6 => k_is)
  (case k7 => k_is)
  (case k9 => intro _; exact BindsTo.of_eq rfl)
  (case c5 => decide)
  (case kB => exact locs rfl)
  (case c2 => exact rfl)
  (case c3 => exact rfl)
  (case c4 => exact rfl)
  (case c6 => decide)
  intro p loose mean mg mb dp un gd outer A₀ base g L h₁ s B F N X T hd hu
  try dsimp only
  try k_fold
  have hn2 : NeA tx td := neA_cls N (by k_mem) (by k_mem) (by intro e; cases e)
  have hn3 : NeA tx lc := neA_cls N (by k_mem) (by k_mem) (by intro e; cases e)
  have hn4 : NeA td lc := neA_cls N (by k_mem) (by k_mem) (by intro e; injection e with e; exact absurd e (by decide))
  dsimp only [textEs, ent] at N
  k_steps
  all_goals (rename News _ _ _ _ => N9; refine bodyEndN_ (os := [_, _, _]) (by assumption) ⟨N9.get (by k_mem), N9.get (by k_mem), N9.get (by k_mem), trivial⟩ ⟨⟨_, _, _, _, _, rfl, by assumption, ?_, ?_, ?_, ?_, rfl⟩⟩)
  all_goals omega
set_option maxHeartbeats 1000000 in
theorem move_c (w : World) (tx td lc : Addr) (vc : List Value) (ks : List Int) (kc : Nat) (p1 p2 p3 p4 v1 v2 v3 t : Tok) (x ge : Int) (hx : x = 0) (hg0 : 8 ≤ ge) (hg1 : ge ≤ 1000) (hi : IntsAre vc ks) (hl : (ks.length : Int) = ge) :
    NCall w 147 [.ref tx, .int x t] 1 [(tx, instObj 192 td), (td, dictOf (textEs w lc p1 p2 p3 p4 v1 v2 v3 0 ge) 4), (lc, listOf vc.toArray kc)]
      (fun os v => ∃ ge' v2' v3' vc' kc' ks', os = [instObj 192 td, dictOf (textEs w lc p1 p2 p3 p4 v1 v2' v3' 0 ge') 4, listOf (List.toArray vc') kc'] ∧ IntsAre vc' ks' ∧ (ks'.length : Int) = ge ∧ ge' = ge ∧ v = .none) := by
  w_top off
  k_with_none
  k_with "k_ne" => first | with_reducible_and_instances (first | exact LtAll.ne (by assumption) (by k_mem) | exact LtAll.en (by assumption) (by k_mem) | exact NeA.out (by assumption) | exact NeA.tuo (by assumption)) | (refine neN ?_; (try dsimp only); omega)
  k_with "binaryOp Mult ref int" => (k_here; k_dflt (refine' mul_one ?mqF ?mqN ?mql ?mqlo ?mqhi ?_; (case mqF => k_asm); (case mqN => k_asm); (case mql => k_mem); (case mqlo => omega); (case mqhi => omega)); intro D' ws' h' F' N' l1 hI'; (try k_lt l1); (try k_sweep))
  k_with "setItem ref ref" => (k_here; k_dflt (refine' setSlice_some ?mqF ?mqN ?mqU ?mqb ?mqne ?mqi1 ?mqi2 ?mqh0 ?mqh1 ?mqh3 ?mqz ?mqz2 ?_; (case mqF => k_asm); (case mqN => k_asm); (case mqU => k_updF); (case mqb => k_mem); (case mqne => k_ne); (case mqi1 => l_ints); (case mqi2 => l_ints); (case mqh0 => omega); (case mqh1 => omega); (case mqh3 => omega); (case mqz => omega); (case mqz2 => ((try simp only [List.length_nil, List.length_replicate]); omega))); intro ws' n' h' ks' F' N' hI' hk'; (try simp only [List.length_nil, List.length_replicate] at hk'); (try dsimp only at N'); (try k_sweep))
  k_with "kmk_nums" => ((with_reducible show IntsAre (slicePick _ (some _) (some _) none).toList _); exact kmk_void (by l_ints) (by omega) (by omega))
  k_with "call builtin:len" => (k_here; (with_reducible show wpAny _ _ (call (Value.builtin _) [Value.ref _]) _ _ _); k_dflt (refine' kst_len ?mqk1 ?mqk2 ?mqk3 ?mqk4 ?_; (case mqk1 => k_asm); (case mqk2 => k_mem); (case mqk3 => exact IntsAre.length (by assumption)); (case mqk4 => ((try simp only [List.length_nil]); omega))); (try simp only [List.length_nil]))
  subst hx
  try (unfold NCall; k_fill; fail)
  refine' ncall_of (binds := [("self", .ref tx), ("at", .int 0 t)]) ?k6 ?k7 ?k9 ?kB ?c2 ?c3 ?c4 ?c5 ?c6 ?_
  (case k6 => k_is)
  (case k7 => k_is)
  (case k9 => intro _; exact BindsTo.of_eq rfl)
  (case c5 => decide)
  (case kB => exact locs rfl)
  (case c2 => exact rfl)
  (case c3 => exact rfl)
  (case c4 => exact rfl)
  (case c6 => decide)
  intro p loose mean mg mb dp un gd outer A₀ base g L h₁ s B F N X T hd hu
  try dsimp only
  try k_fold
  have hn2 : NeA tx td := neA_cls N (by k_mem) (by k_mem) (by intro e; cases e)
  have hn3 : NeA tx lc := neA_cls N (by k_mem) (by k_mem) (by intro e; cases e)
  have hn4 : NeA td lc := neA_cls N (by k_mem) (by k_mem) (by intro e; injection e with e; exact absurd e (by decide))
  dsimp only [textEs, ent] at N
  k_steps
  all_goals (rename News _ _ _ _ => N9; refine bodyEndN_ (os := [_, _, _]) (by assumption) ⟨N9.get (by k_mem), N9.get (by k_mem), N9.get (by k_mem), trivial⟩ ⟨⟨_, _, _, _, _, _, rfl, by assumption, ?_, ?_, rfl⟩⟩)
  all_goals omega
end PN2

section PN3
set_option maxHeartbeats 1000000 in
theorem gapinsert_c (w : World) (tx td lc lk : Addr) (vc vk : List Value) (ks a1 a2 a3 : List Int) (kc kk : Nat) (p1 p2 p3 p4 v1 v2 v3 t : Tok) (x : Int) (hx : x = 0) (hlk : (a1 ++ a2 ++ a3).length ≤ 50) (hi : IntsAre vc ks) (hl : ks.length = 8) (hk : IntsAre vk (a1 ++ a2 ++ a3)) (hne : NeA lc lk) :
    NCall w 161 [.ref tx, .int x t, .ref lk] 2 [(tx, instObj 192 td), (td, dictOf (textEs w lc p1 p2 p3 p4 v1 v2 v3 0 8) 4), (lc, listOf vc.toArray kc), (lk, listOf vk.toArray kk)]
      (fun os v => ∃ gs ge v2' v3' vc' kc' pad, os = [instObj 192 td, dictOf (textEs w lc p1 p2 p3 p4 v1 v2' v3' gs ge) 4, listOf (List.toArray vc') kc', listOf vk.toArray kk] ∧ IntsAre vc' (a1 ++ a2 ++ a3 ++ pad) ∧ gs = ((a1 ++ a2 ++ a3).length : Nat) ∧ v = .none) := by
  w_top off
  k_with_none
  k_with "k_ne" => first | with_reducible_and_instances (first | exact LtAll.ne (by assumption) (by k_mem) | exact LtAll.en (by assumption) (by k_mem) | exact NeA.out (by assumption) | exact NeA.tuo (by assumption)) | (refine neN ?_; (try dsimp only); omega)
  k_with "call builtin:len" => (k_here; (with_reducible show wpAny _ _ (call (Value.builtin _) [Value.ref _]) _ _ _); k_dflt (refine' kst_len ?mqk1 ?mqk2 ?mqk3 ?mqk4 ?_; (case mqk1 => k_asm); (case mqk2 => k_mem); (case mqk3 => exact IntsAre.length (by assumption)); (case mqk4 => omega)))
  k_with "setItem ref ref" => (k_here; k_dflt (refine' setSlice_text ?mqF ?mqN ?mqU ?mqb ?mqne ?mqi1 ?mqi2 ?mqh0 ?mqh1 ?mqh3 ?mqz ?mqz2 ?_; (case mqF => k_asm); (case mqN => k_asm); (case mqU => k_updF); (case mqb => k_mem); (case mqne => k_ne); (case mqi1 => l_ints); (case mqi2 => assumption); (case mqh0 => omega); (case mqh1 => omega); (case mqh3 => omega); (case mqz => omega); (case mqz2 => omega)); intro ws' n' h' pad' F' N' hI'; (try dsimp only at N'); (try k_sweep))
  k_with "call ref" => (k_here; k_dflt (
      (rename RestIs _ => mqhr8); refine' ncall_useR (move_c _ _ _ _ _ _ _ _ _ _ _ _ _ _ _ _ _ ?mqh1 ?mqh2 ?mqh3 ?mqh4 ?mqh5) mqhr8 ?mqB ?mqF ?mqX ?mqN ?mqT ?mqk ?mqds ?mqrest ?mqoff ?mqd ?mqu ?_
      (case mqB => k_asm)
      (case mqF => k_asm)
      (case mqX => k_asm)
      (case mqN => k_asm)
      (case mqT => k_asm)
      (case mqk => first | exact rfl | assumption)
      (case mqds => lcg_sub)
      (case mqrest => lcg_sub)
      (case mqoff => (repeat' (first | k_ne | exact List.forall_mem_nil _ | refine List.forall_mem_cons.mpr ⟨?_, ?_⟩)))
      (case mqh1 => rfl)
      (case mqh4 => assumption)
      (case mqh2 => omega)
      (case mqh3 => omega)
      (case mqh5 => omega)
      (case mqd => first | omega | ktr_room)
      (case mqu => first | omega | ktr_units)
      intro v' h' tk' os' F' N' P'
      obtain ⟨ge', v2', v3', vc', kc', ks', eo', hI', hk', hg', ev'⟩ := P'
      subst eo'
      subst ev'
      try dsimp only [newLed] at N'
      try dsimp only
      try k_sweep))
  k_with "call ref" => (k_here; k_dflt (
      (rename RestIs _ => mqhr8); refine' ncall_useR (widen_c _ _ _ _ _ _ _ _ _ _ _ _ _ _ _ _ ?mqh1 ?mqh2 ?mqh3 ?mqh4) mqhr8 ?mqB ?mqF ?mqX ?mqN ?mqT ?mqk ?mqds ?mqrest ?mqoff ?mqd ?mqu ?_
      (case mqB => k_asm)
      (case mqF => k_asm)
      (case mqX => k_asm)
      (case mqN => k_asm)
      (case mqT => k_asm)
      (case mqk => first | exact rfl | assumption)
      (case mqds => lcg_sub)
      (case mqrest => lcg_sub)
      (case mqoff => (repeat' (first | k_ne | exact List.forall_mem_nil _ | refine List.forall_mem_cons.mpr ⟨?_, ?_⟩)))
      (case mqh1 => omega)
      (case mqh2 => omega)
      (case mqh3 => assumption)
      (case mqh4 => omega)
      (case mqd => first | omega | ktr_room)
      (case mqu => first | omega | ktr_units)
      intro v' h' tk' os' F' N' P'
      obtain ⟨ge', v3', vc', kc', ks', eo', hI', hk', hg1', hg2', hg3', ev'⟩ := P'
      subst eo'
      subst ev'
      try dsimp only [newLed] at N'
      try dsimp only
      try k_sweep))
  subst hx
  try (unfold NCall; k_fill; fail)
  refine' ncall_of (binds := [("self", .ref tx), ("at", .int 0 t), ("codes", .ref lk)]) ?k6 ?k7 ?k9 ?kB ?c2 ?c3 ?c4 ?c5 ?c6 ?_
  (case k6 => k_is)
  (case k7 => k_is)
  (case k9 => intro _; exact BindsTo.of_eq rfl)
  (case c5 => decide)
  (case kB => exact locs rfl)
  (case c2 => exact rfl)
  (case c3 => exact rfl)
  (case c4 => exact rfl)
  (case c6 => decide)
  intro p loose mean mg mb dp un gd outer A₀ base g L h₁ s B F N X T hd hu
  try dsimp only
  try k_fold
  have hn2 : NeA tx td := neA_cls N (by k_mem) (by k_mem) (by intro e; cases e)
  have hn3 : NeA tx lc := neA_cls N (by k_mem) (by k_mem) (by intro e; cases e)
  have hn4 : NeA td lc := neA_cls N (by k_mem) (by k_mem) (by intro e; injection e with e; exact absurd e (by decide))
  have hn5 : NeA tx lk := neA_cls N (by k_mem) (by k_mem) (by intro e; cases e)
  have hn6 : NeA td lk := neA_cls N (by k_mem) (by k_mem) (by intro e; injection e with e; exact absurd e (by decide))
  have hRest : RestIs [(lk, listOf vk.toArray kk)] := Eq.refl [(lk, listOf vk.toArray kk)]
  dsimp only [textEs, ent] at N
  k_steps
  all_goals (rename News _ _ _ _ => N9; refine bodyEndN_ (os := [_, _, _, _]) (by assumption) ⟨N9.get (by k_mem), N9.get (by k_mem), N9.get (by k_mem), N9.get (by k_mem), trivial⟩ ⟨⟨_, _, _, _, _, _, _, rfl, by assumption, ?_, rfl⟩⟩)
  all_goals omega
end PN3

section PN4
theorem neA_dict {h₀ h : Heap} {L a b : Addr} {es es' : List DictEntry} {n n' : Nat} {news : List (Addr × Obj)} (N : News h₀ L h news) (ha : (a, dictOf es n) ∈ news) (hb : (b, dictOf es' n') ∈ news) (hne : es.length ≠ es'.length) : NeA a b :=
  neA_obj N ha hb fun e => hne (by
    have := congrArg (fun o : Obj => match o.data with | .dict es _ => es.size | _ => 0) e
    simpa using this)
abbrev bufEs (w : World) (tx mk ls : Addr) (q : Nat → Tok) (u1 u2 u3 u4 u5 u6 u7 u8 : Tok) (point zv ticks cticks : Int) : List DictEntry :=
  [ent w "number" (q 1) (.int 1 u1), ent w "name" (q 2) (.str "a" u2), ent w "text" (q 3) (.ref tx), ent w "markers" (q 4) (.ref mk), ent w "point" (q 5) (.int point u3), ent w "begv" (q 6) (.int 1 u4), ent w "zv" (q 7) (.int zv u5), ent w "mark" (q 8) .none, ent w "is_live" (q 9) (.bool true), ent w "is_read_only" (q 10) (.bool false), ent w "ticks" (q 11) (.int ticks u6), ent w "codes_ticks" (q 12) (.int cticks u7), ent w "saved_ticks" (q 13) (.int 1 u8), ent w "listeners" (q 14) (.ref ls), ent w "undo" (q 15) .none, ent w "props" (q 16) .none, ent w "overlays" (q 17) .none, ent w "locals" (q 18) .none, ent w "syntax" (q 19) .none, ent w "file" (q 20) .none]
set_option maxHeartbeats 1000000 in
theorem text_c (w : World) (b bd tx td lc lk mk ls : Addr) (vc vk : List Value) (ks a1 a2 a3 : List Int) (kc kk : Nat) (q : Nat → Tok) (u1 u2 u3 u4 u5 u6 u7 u8 p1 p2 p3 p4 v1 v2 v3 t : Tok) (x : Int) (hx : x = 1) (hlk : (a1 ++ a2 ++ a3).length ≤ 50) (hi : IntsAre vc ks) (hl : ks.length = 8) (hk : IntsAre vk (a1 ++ a2 ++ a3)) (hne : NeA lc lk) :
    NCall w 467 [.ref b, .int x t, .ref lk] 3 [(b, instObj 403 bd), (bd, dictOf (bufEs w tx mk ls q u1 u2 u3 u4 u5 u6 u7 u8 1 1 1 1) 20), (tx, instObj 192 td), (td, dictOf (textEs w lc p1 p2 p3 p4 v1 v2 v3 0 8) 4), (lc, listOf vc.toArray kc), (lk, listOf vk.toArray kk)]
      (fun os v => ∃ zv gs ge u5' v2' v3' vc' kc' pad, os = [instObj 403 bd, dictOf (bufEs w tx mk ls q u1 u2 u3 u4 u5' u6 u7 u8 1 zv 1 1) 20, instObj 192 td, dictOf (textEs w lc p1 p2 p3 p4 v1 v2' v3' gs ge) 4, listOf (List.toArray vc') kc', listOf vk.toArray kk] ∧ IntsAre vc' (a1 ++ a2 ++ a3 ++ pad) ∧ gs = ((a1 ++ a2 ++ a3).length : Nat) ∧ zv = gs + 1 ∧ v = .none) := by
  w_top off
  k_with_none
  k_with "k_ne" => first | with_reducible_and_instances (first | exact LtAll.ne (by assumption) (by k_mem) | exact LtAll.en (by assumption) (by k_mem) | exact NeA.out (by assumption) | exact NeA.tuo (by assumption)) | (refine neN ?_; (try dsimp only); omega)
  k_with "call builtin:len" => (k_here; (with_reducible show wpAny _ _ (call (Value.builtin _) [Value.ref _]) _ _ _); k_dflt (refine' kst_len ?mqk1 ?mqk2 ?mqk3 ?mqk4 ?_; (case mqk1 => k_asm); (case mqk2 => k_mem); (case mqk3 => exact IntsAre.length (by assumption)); (case mqk4 => omega)))
  k_with "call ref" => (k_here; k_dflt (
      (rename RestIs _ => mqhr8); refine' ncall_useR (gapinsert_c _ _ _ _ _ _ _ _ _ _ _ _ _ _ _ _ _ _ _ _ _ _ ?mqh1 ?mqh2 ?mqh3 ?mqh4 ?mqh5 ?mqh6) mqhr8 ?mqB ?mqF ?mqX ?mqN ?mqT ?mqk ?mqds ?mqrest ?mqoff ?mqd ?mqu ?_
      (case mqB => k_asm)
      (case mqF => k_asm)
      (case mqX => k_asm)
      (case mqN => k_asm)
      (case mqT => k_asm)
      (case mqk => first | exact rfl | assumption)
      (case mqds => lcg_sub)
      (case mqrest => lcg_sub)
      (case mqoff => (repeat' (first | k_ne | exact List.forall_mem_nil _ | refine List.forall_mem_cons.mpr ⟨?_, ?_⟩)))
      (case mqh1 => rfl)
      (case mqh5 => assumption)
      (case mqh3 => assumption)
      (case mqh2 => omega)
      (case mqh4 => omega)
      (case mqh6 => assumption)
      (case mqd => first | omega | ktr_room)
      (case mqu => first | omega | ktr_units)
      intro v' h' tk' os' F' N' P'
      obtain ⟨gs', ge', v2', v3', vc', kc', pad', eo', hI', hg', ev'⟩ := P'
      subst eo'
      subst ev'
      try dsimp only [newLed] at N'
      try dsimp only
      try k_sweep))
  subst hx
  try (unfold NCall; k_fill; fail)
  refine' ncall_of (binds := [("buffer", .ref b), ("place", .int 1 t), ("codes", .ref lk)]) ?k6 ?k7 ?k9 ?kB ?c2 ?c3 ?c4 ?c5 ?c6 ?_
  (case k6 => k_is)
  (case k7 => k_is)
  (case k9 => intro _; exact BindsTo.of_eq rfl)
  (case c5 => decide)
  (case kB => exact locs rfl)
  (case c2 => exact rfl)
  (case c3 => exact rfl)
  (case c4 => exact rfl)
  (case c6 => decide)
  intro p loose mean mg mb dp un gd outer A₀ base g L h₁ s B F N X T hd hu
  try dsimp only
  try k_fold
  have hn1 : NeA b bd := neA_cls N (by k_mem) (by k_mem) (by intro e; cases e)
  have hn2 : NeA b tx := neA_cls N (by k_mem) (by k_mem) (by intro e; injection e with e; exact absurd e (by decide))
  have hn3 : NeA b td := neA_cls N (by k_mem) (by k_mem) (by intro e; cases e)
  have hn4 : NeA b lc := neA_cls N (by k_mem) (by k_mem) (by intro e; cases e)
  have hn5 : NeA b lk := neA_cls N (by k_mem) (by k_mem) (by intro e; cases e)
  have hn6 : NeA bd tx := neA_cls N (by k_mem) (by k_mem) (by intro e; cases e)
  have hn7 : NeA bd td := neA_dict N (by k_mem) (by k_mem) (by show (20 : Nat) ≠ 4; decide)
  have hn8 : NeA bd lc := neA_cls N (by k_mem) (by k_mem) (by intro e; injection e with e; exact absurd e (by decide))
  have hn9 : NeA bd lk := neA_cls N (by k_mem) (by k_mem) (by intro e; injection e with e; exact absurd e (by decide))
  have hRest : RestIs [(b, instObj 403 bd), (bd, dictOf (bufEs w tx mk ls q u1 u2 u3 u4 u5 u6 u7 u8 1 1 1 1) 20)] := Eq.refl [(b, instObj 403 bd), (bd, dictOf (bufEs w tx mk ls q u1 u2 u3 u4 u5 u6 u7 u8 1 1 1 1) 20)]
  dsimp only [textEs, bufEs, ent] at N hRest
  k_steps
  all_goals (rename News _ _ _ _ => N9; refine bodyEndN_ (os := [_, _, _, _, _, _]) (by assumption) ⟨N9.get (by k_mem), N9.get (by k_mem), N9.get (by k_mem), N9.get (by k_mem), N9.get (by k_mem), N9.get (by k_mem), trivial⟩ ⟨⟨_, _, _, _, _, _, _, _, _, rfl, by assumption, ?_, ?_, rfl⟩⟩)
  all_goals omega
end PN4

section PN5
set_option maxHeartbeats 1000000 in
theorem touch_c (w : World) (b bd tx mk ls : Addr) (q : Nat → Tok) (u1 u2 u3 u4 u5 u6 u7 u8 : Tok) (point zv : Int) :
    NCall w 400 [.ref b, .bool true] 1 [(b, instObj 403 bd), (bd, dictOf (bufEs w tx mk ls q u1 u2 u3 u4 u5 u6 u7 u8 point zv 1 1) 20)]
      (fun os v => ∃ ticks cticks u6' u7', os = [instObj 403 bd, dictOf (bufEs w tx mk ls q u1 u2 u3 u4 u5 u6' u7' u8 point zv ticks cticks) 20] ∧ v = .none) := by
  w_top off
  k_with_none
  k_with "k_ne" => first | with_reducible_and_instances (first | exact LtAll.ne (by assumption) (by k_mem) | exact LtAll.en (by assumption) (by k_mem) | exact NeA.out (by assumption) | exact NeA.tuo (by assumption)) | (refine neN ?_; (try dsimp only); omega)
  k_with "call builtin:len" => (k_here; (with_reducible show wpAny _ _ (call (Value.builtin _) [Value.ref _]) _ _ _); k_dflt (refine' kst_len ?mqk1 ?mqk2 ?mqk3 ?mqk4 ?_; (case mqk1 => k_asm); (case mqk2 => k_mem); (case mqk3 => exact IntsAre.length (by assumption)); (case mqk4 => omega)))
  try (unfold NCall; k_fill; fail)
  refine' ncall_of (binds := [("self", .ref b), ("are_codes", .bool true)]) ?k6 ?k7 ?k9 ?kB ?c2 ?c3 ?c4 ?c5 ?c6 ?_
  (case k6 => k_is)
  (case k7 => k_is)
  (case k9 => intro _; exact BindsTo.of_eq rfl)
  (case c5 => decide)
  (case kB => exact locs rfl)
  (case c2 => exact rfl)
  (case c3 => exact rfl)
  (case c4 => exact rfl)
  (case c6 => decide)
  intro p loose mean mg mb dp un gd outer A₀ base g L h₁ s B F N X T hd hu
  try dsimp only
  try k_fold
  have hn1 : NeA b bd := neA_cls N (by k_mem) (by k_mem) (by intro e; cases e)
  dsimp only [bufEs, ent] at N
  k_steps
  all_goals (rename News _ _ _ _ => N9; refine bodyEndN_ (os := [_, _]) (by assumption) ⟨N9.get (by k_mem), N9.get (by k_mem), trivial⟩ ⟨⟨_, _, _, _, rfl, rfl⟩⟩)
set_option maxHeartbeats 1000000 in
theorem behind_c (w : World) (b bd tx mk ls : Addr) (kl : Nat) (q : Nat → Tok) (u1 u2 u3 u4 u5 u6 u7 u8 t1 t2 t3 : Tok) (x y z point zv : Int) :
    NCall w 460 [.ref b, .int x t1, .int y t2, .int z t3] 3 [(b, instObj 403 bd), (bd, dictOf (bufEs w tx mk ls q u1 u2 u3 u4 u5 u6 u7 u8 point zv 1 1) 20), (ls, listOf #[] kl)]
      (fun os v => ∃ ticks cticks u6' u7', os = [instObj 403 bd, dictOf (bufEs w tx mk ls q u1 u2 u3 u4 u5 u6' u7' u8 point zv ticks cticks) 20, listOf #[] kl] ∧ v = .none) := by
  w_top off
  k_with_none
  k_with "k_ne" => first | with_reducible_and_instances (first | exact LtAll.ne (by assumption) (by k_mem) | exact LtAll.en (by assumption) (by k_mem) | exact NeA.out (by assumption) | exact NeA.tuo (by assumption)) | (refine neN ?_; (try dsimp only); omega)
  k_with "call builtin:len" => (k_here; (with_reducible show wpAny _ _ (call (Value.builtin _) [Value.ref _]) _ _ _); k_dflt (refine' kst_len ?mqk1 ?mqk2 ?mqk3 ?mqk4 ?_; (case mqk1 => k_asm); (case mqk2 => k_mem); (case mqk3 => exact IntsAre.length (by assumption)); (case mqk4 => omega)))
  k_with "call ref" => (k_here; k_dflt (
      (rename RestIs _ => mqhr8); refine' ncall_useR (touch_c _ _ _ _ _ _ _ _ _ _ _ _ _ _ _ _ _) mqhr8 ?mqB ?mqF ?mqX ?mqN ?mqT ?mqk ?mqds ?mqrest ?mqoff ?mqd ?mqu ?_
      (case mqB => k_asm)
      (case mqF => k_asm)
      (case mqX => k_asm)
      (case mqN => k_asm)
      (case mqT => k_asm)
      (case mqk => first | exact rfl | assumption)
      (case mqds => lcg_sub)
      (case mqrest => lcg_sub)
      (case mqoff => (repeat' (first | k_ne | exact List.forall_mem_nil _ | refine List.forall_mem_cons.mpr ⟨?_, ?_⟩)))
      skip
      (case mqd => first | omega | ktr_room)
      (case mqu => first | omega | ktr_units)
      intro v' h' tk' os' F' N' P'
      obtain ⟨tc', cc', u6', u7', eo', ev'⟩ := P'
      subst eo'
      subst ev'
      try dsimp only [newLed] at N'
      try dsimp only
      try k_sweep))
  try (unfold NCall; k_fill; fail)
  refine' ncall_of (binds := [("buffer", .ref b), ("start", .int x t1), ("end", .int y t2), ("old_length", .int z t3)]) ?k6 ?k7 ?k9 ?kB ?c2 ?c3 ?c4 ?c5 ?c6 ?_
  (case k6 => k_is)
  (case k7 => k_is)
  (case k9 => intro _; exact BindsTo.of_eq rfl)
  (case c5 => decide)
  (case kB => exact locs rfl)
  (case c2 => exact rfl)
  (case c3 => exact rfl)
  (case c4 => exact rfl)
  (case c6 => decide)
  intro p loose mean mg mb dp un gd outer A₀ base g L h₁ s B F N X T hd hu
  try dsimp only
  try k_fold
  have hn1 : NeA b bd := neA_cls N (by k_mem) (by k_mem) (by intro e; cases e)
  have hn2 : NeA b ls := neA_cls N (by k_mem) (by k_mem) (by intro e; cases e)
  have hn3 : NeA bd ls := neA_cls N (by k_mem) (by k_mem) (by intro e; injection e with e; exact absurd e (by decide))
  have hRest : RestIs [(ls, listOf #[] kl)] := Eq.refl [(ls, listOf #[] kl)]
  dsimp only [bufEs, ent] at N
  k_steps
  all_goals (rename News _ _ _ _ => N9; refine bodyEndN_ (os := [_, _, _]) (by assumption) ⟨N9.get (by k_mem), N9.get (by k_mem), N9.get (by k_mem), trivial⟩ ⟨⟨_, _, _, _, rfl, rfl⟩⟩)
end PN5

section PN6
/-- a mark in the context: seven objects that a call leaves as they stand -/
def Rest7 (a1 a2 a3 a4 a5 a6 a7 : Addr) : Prop := [a1, a2, a3, a4, a5, a6, a7] = [a1, a2, a3, a4, a5, a6, a7]
theorem ncall_use7 {w : World} {f : Addr} {vs : List Value} {dep : Nat} {ds : List (Addr × Obj)} {post : List Obj → Value → Prop} (C : NCall w f vs dep ds post)
    {p : Program} {loose : List Str} {mean : ExcName → Option Value} {mg mb : Str → Option Value} {dp un : Nat} {gd : Option (List Code)} {cn : Str} {cs : Scope} {a : Addr} {ccd : Value} {cl : List (Str × Addr)} {outer : List Env} {A₀ : Around} {base h₀ : Heap} {L : Addr} {m : Str → Option Value} {s : Shared} {Q E : Value → Shared → Prop} {news : List (Addr × Obj)}
    {a1 a2 a3 a4 a5 a6 a7 : Addr} {o1 o2 o3 o4 o5 o6 o7 : Obj} (_hr : Rest7 a1 a2 a3 a4 a5 a6 a7)
    (B : Below A₀ base outer h₀) (F : Fr h₀ L s.heap m) (X : (Mine.hd.heap_1_39 w.params).In h₀) (N : News h₀ L s.heap news) (T : Top p loose mean mg mb h₀) (hk : cs.kind = .function)
    (hds : ∀ p ∈ ds, p ∈ news) (m1 : (a1, o1) ∈ news) (m2 : (a2, o2) ∈ news) (m3 : (a3, o3) ∈ news) (m4 : (a4, o4) ∈ news) (m5 : (a5, o5) ∈ news) (m6 : (a6, o6) ∈ news) (m7 : (a7, o7) ∈ news)
    (hoff : ∀ p ∈ [(a1, o1), (a2, o2), (a3, o3), (a4, o4), (a5, o5), (a6, o6), (a7, o7)], ∀ q ∈ ds, p.1 ≠ q.1)
    (hd : dp + dep < recursionLimit) (hu : un + 8 * dep < cLine)
    (h : ∀ v h' tk os, Fr h₀ L h' m → News h₀ L h' (newLed ds os [(a1, o1), (a2, o2), (a3, o3), (a4, o4), (a5, o5), (a6, o6), (a7, o7)]) → post os v → Q v { s with heap := h', toks := tk }) :
    wpAny (model PySem.Challenge.rw_rg0137_01.row.prog w) (ktrTop dp un gd cn cs L a ccd cl outer) (call (.ref f) vs) Q E s :=
  ncall_use C B F X N T hk [(a1, o1), (a2, o2), (a3, o3), (a4, o4), (a5, o5), (a6, o6), (a7, o7)] hds (List.forall_mem_cons.mpr ⟨m1, List.forall_mem_cons.mpr ⟨m2, List.forall_mem_cons.mpr ⟨m3, List.forall_mem_cons.mpr ⟨m4, List.forall_mem_cons.mpr ⟨m5, List.forall_mem_cons.mpr ⟨m6, List.forall_mem_cons.mpr ⟨m7, List.forall_mem_nil _⟩⟩⟩⟩⟩⟩⟩) hoff hd hu h
theorem list_nil {h₀ h : Heap} {L l : Addr} {n : Nat} {news : List (Addr × Obj)} (N : News h₀ L h news) (m : (l, listOf #[] n) ∈ news) : h.IsList l #[] := News.isList (items := #[]) N m
/-- a mark in the context: the text and its cells -/
def TextIs (tx lc : Addr) : Prop := [tx, lc] = [tx, lc]
theorem room_m (w : World) (b tx lc : Addr) (ob ot : Obj) (es es2 : List DictEntry) (n n2 : Nat) (vc : List Value) (ks : List Int) (v2 v3 t : Tok) (x : Int) (_hm : TextIs tx lc) (hx0 : 0 ≤ x) (hx : x ≤ 100) (hi : IntsAre vc ks) (hl : ks.length = 8) (h1 : getL "gap_start" es2 = some (some (.int 0 v2))) (h2 : getL "gap_end" es2 = some (some (.int 8 v3))) (h3 : getL "cells" es2 = some (some (.ref lc)))
    (h4 : getL "text" es = some (some (.ref tx))) (h5 : getL "size" es2 = some none) (h6 : getL "size" es = some none) :
    PCall w 439 [.ref b, .int x t] 3 (fun h => InstAt h b ob 403 (some (dictOf es n)) ∧ InstAt h tx ot 192 (some (dictOf es2 n2)) ∧ h.IsList lc vc.toArray) (fun _ _ v => v = .none) :=
  room_c w b tx lc ob ot es es2 n n2 vc ks v2 v3 t x hx0 hx hi hl h1 h2 h3 h4 h5 h6
set_option maxHeartbeats 2000000 in
theorem put_c (w : World) (b bd tx td lc lk mk mkd rw ls : Addr) (oR : Obj) (vc vk : List Value) (ks a1 a2 a3 : List Int) (kc kk kl : Nat) (q : Nat → Tok) (u1 u2 u3 u4 u5 u6 u7 u8 p1 p2 p3 p4 v1 v2 v3 r1 t : Tok) (x : Int) (hx : x = 1) (hlk0 : 1 ≤ (a1 ++ a2 ++ a3).length) (hlk : (a1 ++ a2 ++ a3).length ≤ 50) (hi : IntsAre vc ks) (hl : ks.length = 8) (hk : IntsAre vk (a1 ++ a2 ++ a3)) (hne : NeA lc lk) (hne2 : NeA lc ls) (hne3 : NeA ls lk) (hrw : NeAll rw [b, bd, tx, td, lc, mk, mkd, ls, lk])
    (hlo : (rw == sysModules) = false) (hri : Obj.IsDictOf (PySem.intKind PySem.Challenge.rw_rg0137_01.row.prog w) oR []) (hfi : PyProof.V.FlatPairs PyData.int ([] : List (Int × Value)) []) :
    NCall w 481 [.ref b, .int x t, .ref lk, .bool false, .bool true] 5 [(b, instObj 403 bd), (bd, dictOf (bufEs w tx mk ls q u1 u2 u3 u4 u5 u6 u7 u8 1 1 1 1) 20), (tx, instObj 192 td), (td, dictOf (textEs w lc p1 p2 p3 p4 v1 v2 v3 0 8) 4), (lc, listOf vc.toArray kc), (mk, instObj 262 mkd), (mkd, dictOf [ent w "rows" r1 (.ref rw)] 1), (rw, oR), (ls, listOf #[] kl), (lk, listOf vk.toArray kk)]
      (fun os v => ∃ point zv gs ge ticks cticks u3' u5' u6' u7' v2' v3' vc' kc' pad, os = [instObj 403 bd, dictOf (bufEs w tx mk ls q u1 u2 u3' u4 u5' u6' u7' u8 point zv ticks cticks) 20, instObj 192 td, dictOf (textEs w lc p1 p2 p3 p4 v1 v2' v3' gs ge) 4, listOf (List.toArray vc') kc', instObj 262 mkd, dictOf [ent w "rows" r1 (.ref rw)] 1, oR, listOf #[] kl, listOf vk.toArray kk] ∧ IntsAre vc' (a1 ++ a2 ++ a3 ++ pad) ∧ gs = ((a1 ++ a2 ++ a3).length : Nat) ∧ zv = gs + 1 ∧ v = .none) := by
  w_top off
  k_with_none
  k_with "k_ne" => first | with_reducible_and_instances (first | exact LtAll.ne (by assumption) (by k_mem) | exact LtAll.en (by assumption) (by k_mem) | exact NeA.out (by assumption) | exact NeA.tuo (by assumption)) | (refine neN ?_; (try dsimp only); omega)
  k_with "call builtin:len" => (k_here; (with_reducible show wpAny _ _ (call (Value.builtin _) [Value.ref _]) _ _ _); k_dflt (refine' kst_len ?mqk1 ?mqk2 ?mqk3 ?mqk4 ?_; (case mqk1 => k_asm); (case mqk2 => k_mem); (case mqk3 => exact IntsAre.length (by assumption)); (case mqk4 => omega)))
  k_with "k_ne" => first | with_reducible_and_instances (first | exact LtAll.ne (by assumption) (by k_mem) | exact LtAll.en (by assumption) (by k_mem) | exact NeA.out (by assumption) | exact NeA.tuo (by assumption) | exact NeAll.out (by assumption) (by k_mem) | exact NeAll.tuo (by assumption) (by k_mem)) | (refine neN ?_; (try dsimp only); omega)
  k_with "call ref" => (k_here; k_dflt (
      refine' pcall_use (writable_c _ _ _ _ _ ?mqr1) ?mqB ?mqF ?mqX ?mqN ?mqT ?mqk ?mqpre ?mqd ?mqu ?_
      (case mqB => k_asm)
      (case mqF => k_asm)
      (case mqX => k_asm)
      (case mqN => k_asm)
      (case mqT => k_asm)
      (case mqk => first | exact rfl | assumption)
      (case mqpre => k_inst)
      (case mqr1 => first | exact rfl | k_get)
      (case mqd => first | omega | ktr_room)
      (case mqu => first | omega | ktr_units)
      intro v' h' tk' F' N' S' P'
      subst P'
      clear S'
      try dsimp only
      try k_sweep))
  k_with "call ref" => (k_here; k_dflt (
      refine' pcall_use (reached_c _ _ _ _ _ _ _ _ _ _ _ ?mqr1 ?mqr2 ?mqr3 ?mqr4) ?mqB ?mqF ?mqX ?mqN ?mqT ?mqk ?mqpre ?mqd ?mqu ?_
      (case mqB => k_asm)
      (case mqF => k_asm)
      (case mqX => k_asm)
      (case mqN => k_asm)
      (case mqT => k_asm)
      (case mqk => first | exact rfl | assumption)
      (case mqpre => k_inst)
      (case mqr1 => first | exact rfl | k_get)
      (case mqr2 => first | exact rfl | k_get)
      (case mqr3 => first | exact rfl | k_get)
      (case mqr4 => first | exact rfl | k_get)
      (case mqd => first | omega | ktr_room)
      (case mqu => first | omega | ktr_units)
      intro v' h' tk' F' N' S' P'
      clear P'
      clear S'
      try dsimp only
      try k_sweep))
  k_with "call ref" => (k_here; k_dflt (
      refine' pcall_use (room_m _ _ _ _ _ _ _ _ _ _ _ _ _ _ _ _ (by assumption) ?mqs1 ?mqs2 ?mqi1 ?mqs3 ?mqr1 ?mqr2 ?mqr3 ?mqr4 ?mqr5 ?mqr6) ?mqB ?mqF ?mqX ?mqN ?mqT ?mqk ?mqpre ?mqd ?mqu ?_
      (case mqB => k_asm)
      (case mqF => k_asm)
      (case mqX => k_asm)
      (case mqN => k_asm)
      (case mqT => k_asm)
      (case mqk => first | exact rfl | assumption)
      (case mqpre => (refine And.intro ?_ (And.intro ?_ ?_); (· k_inst); (· k_inst); (· (refine' News.isList ?mqN ?mqm; (case mqN => k_asm); (case mqm => k_mem)))))
      (case mqs1 => first | assumption | omega | (simp only [List.length_append, List.length_take, List.length_drop, List.length_replicate] at *; omega))
      (case mqs2 => first | assumption | omega | (simp only [List.length_append, List.length_take, List.length_drop, List.length_replicate] at *; omega))
      (case mqi1 => l_ints)
      (case mqs3 => first | assumption | omega | (simp only [List.length_append, List.length_take, List.length_drop, List.length_replicate] at *; omega))
      (case mqr1 => first | exact rfl | k_get)
      (case mqr2 => first | exact rfl | k_get)
      (case mqr3 => first | exact rfl | k_get)
      (case mqr4 => first | exact rfl | k_get)
      (case mqr5 => first | exact rfl | k_get)
      (case mqr6 => first | exact rfl | k_get)
      (case mqd => first | omega | ktr_room)
      (case mqu => first | omega | ktr_units)
      intro v' h' tk' F' N' S' P'
      subst P'
      clear S'
      try dsimp only
      try k_sweep))
  k_with "call ref" => (k_here; k_dflt (
      refine' pcall_use (ahead_c _ _ _ _ _ _ _ _ _ _ ?mqr1) ?mqB ?mqF ?mqX ?mqN ?mqT ?mqk ?mqpre ?mqd ?mqu ?_
      (case mqB => k_asm)
      (case mqF => k_asm)
      (case mqX => k_asm)
      (case mqN => k_asm)
      (case mqT => k_asm)
      (case mqk => first | exact rfl | assumption)
      (case mqpre => (refine And.intro ?_ ?_; (· k_inst); (· (refine' list_nil ?mqN ?mqm; (case mqN => k_asm); (case mqm => k_mem)))))
      (case mqr1 => first | exact rfl | k_get)
      (case mqd => first | omega | ktr_room)
      (case mqu => first | omega | ktr_units)
      intro v' h' tk' F' N' S' P'
      subst P'
      clear S'
      try dsimp only
      try k_sweep))
  k_with "call ref" => (k_here; k_dflt (
      refine' pcall_use (inserted_c _ _ _ _ _ _ _ _ _ _ _ ?mqr1 ?mqr2) ?mqB ?mqF ?mqX ?mqN ?mqT ?mqk ?mqpre ?mqd ?mqu ?_
      (case mqB => k_asm)
      (case mqF => k_asm)
      (case mqX => k_asm)
      (case mqN => k_asm)
      (case mqT => k_asm)
      (case mqk => first | exact rfl | assumption)
      (case mqpre => (refine And.intro ?_ ?_; (· k_inst); (· (refine' TabAt.ofNews ?mqN ?mqm ?mqlo ?mqhd ?mqhf; (case mqlo => assumption); (case mqhd => with_reducible assumption); (case mqhf => with_reducible assumption); (case mqN => k_asm); (case mqm => k_mem)))))
      (case mqr1 => first | exact rfl | k_get)
      (case mqr2 => first | exact rfl | k_get)
      (case mqd => first | omega | ktr_room)
      (case mqu => first | omega | ktr_units)
      intro v' h' tk' F' N' S' P'
      subst P'
      clear S'
      try dsimp only
      try k_sweep))
  k_with "call ref" => (k_here; k_dflt (
      refine' pcall_use (hung_c _ _ _ _ _ _ _ _ _ _ ?mqr1 ?mqr2) ?mqB ?mqF ?mqX ?mqN ?mqT ?mqk ?mqpre ?mqd ?mqu ?_
      (case mqB => k_asm)
      (case mqF => k_asm)
      (case mqX => k_asm)
      (case mqN => k_asm)
      (case mqT => k_asm)
      (case mqk => first | exact rfl | assumption)
      (case mqpre => k_inst)
      (case mqr1 => first | exact rfl | k_get)
      (case mqr2 => first | exact rfl | k_get)
      (case mqd => first | omega | ktr_room)
      (case mqu => first | omega | ktr_units)
      intro v' h' tk' F' N' S' P'
      subst P'
      clear S'
      try dsimp only
      try k_sweep))
  k_with "call ref" => (k_here; k_dflt (
      (rename RestIs _ => mqhr8); refine' ncall_useR (text_c _ _ _ _ _ _ _ _ _ _ _ _ _ _ _ _ _ _ _ _ _ _ _ _ _ _ _ _ _ _ _ _ _ _ _ ?mqh1 ?mqh2 ?mqh3 ?mqh4 ?mqh5 ?mqh6) mqhr8 ?mqB ?mqF ?mqX ?mqN ?mqT ?mqk ?mqds ?mqrest ?mqoff ?mqd ?mqu ?_
      (case mqB => k_asm)
      (case mqF => k_asm)
      (case mqX => k_asm)
      (case mqN => k_asm)
      (case mqT => k_asm)
      (case mqk => first | exact rfl | assumption)
      (case mqds => lcg_sub)
      (case mqrest => lcg_sub)
      (case mqoff => (repeat' (first | k_ne | exact List.forall_mem_nil _ | refine List.forall_mem_cons.mpr ⟨?_, ?_⟩)))
      (case mqh1 => rfl)
      (case mqh5 => assumption)
      (case mqh3 => assumption)
      (case mqh2 => omega)
      (case mqh4 => omega)
      (case mqh6 => assumption)
      (case mqd => first | omega | ktr_room)
      (case mqu => first | omega | ktr_units)
      intro v' h' tk' os' F' N' P'
      obtain ⟨zv', gs', ge', u5', v2', v3', vc', kc', pad', eo', hI', hg', hz', ev'⟩ := P'
      subst eo'
      subst ev'
      try dsimp only [newLed] at N'
      try dsimp only
      try k_sweep))
  k_with "call ref" => (k_here; k_dflt (
      (rename Rest7 _ _ _ _ _ _ _ => mqhr8); refine' ncall_use7 (behind_c _ _ _ _ _ _ _ _ _ _ _ _ _ _ _ _ _ _ _ _ _ _ _ _) mqhr8 ?mqB ?mqF ?mqX ?mqN ?mqT ?mqk ?mqds ?mqm1 ?mqm2 ?mqm3 ?mqm4 ?mqm5 ?mqm6 ?mqm7 ?mqoff ?mqd ?mqu ?_
      (case mqB => k_asm)
      (case mqF => k_asm)
      (case mqX => k_asm)
      (case mqN => k_asm)
      (case mqT => k_asm)
      (case mqk => first | exact rfl | assumption)
      (case mqds => lcg_sub)
      (case mqm1 => k_mem)
      (case mqm2 => k_mem)
      (case mqm3 => k_mem)
      (case mqm4 => k_mem)
      (case mqm5 => k_mem)
      (case mqm6 => k_mem)
      (case mqm7 => k_mem)
      (case mqoff => (repeat' (first | k_ne | exact List.forall_mem_nil _ | refine List.forall_mem_cons.mpr ⟨?_, ?_⟩)))
      skip
      (case mqd => first | omega | ktr_room)
      (case mqu => first | omega | ktr_units)
      intro v' h' tk' os' F' N' P'
      obtain ⟨tc', cc', u6', u7', eo', ev'⟩ := P'
      subst eo'
      subst ev'
      try dsimp only [newLed] at N'
      try dsimp only
      try k_sweep))
  subst hx
  try (unfold NCall; k_fill; fail)
  refine' ncall_of (binds := [("buffer", .ref b), ("place", .int 1 t), ("codes", .ref lk), ("before_markers", .bool false), ("is_point_behind", .bool true)]) ?k6 ?k7 ?k9 ?kB ?c2 ?c3 ?c4 ?c5 ?c6 ?_
  (case k6 => k_is)
  (case k7 => k_is)
  (case k9 => intro _; exact BindsTo.of_eq rfl)
  (case c5 => decide)
  (case kB => exact locs rfl)
  (case c2 => exact rfl)
  (case c3 => exact rfl)
  (case c4 => exact rfl)
  (case c6 => decide)
  intro p loose mean mg mb dp un gd outer A₀ base g L h₁ s B F N X T hd hu
  try dsimp only
  try k_fold
  have hnb_bd : NeA b bd := neA_cls N (by k_mem) (by k_mem) (by intro e; cases e)
  have hnb_tx : NeA b tx := neA_cls N (by k_mem) (by k_mem) (by intro e; injection e with e; exact absurd e (by decide))
  have hnb_td : NeA b td := neA_cls N (by k_mem) (by k_mem) (by intro e; cases e)
  have hnb_lc : NeA b lc := neA_cls N (by k_mem) (by k_mem) (by intro e; cases e)
  have hnb_mk : NeA b mk := neA_cls N (by k_mem) (by k_mem) (by intro e; injection e with e; exact absurd e (by decide))
  have hnb_mkd : NeA b mkd := neA_cls N (by k_mem) (by k_mem) (by intro e; cases e)
  have hnb_ls : NeA b ls := neA_cls N (by k_mem) (by k_mem) (by intro e; cases e)
  have hnb_lk : NeA b lk := neA_cls N (by k_mem) (by k_mem) (by intro e; cases e)
  have hnbd_tx : NeA bd tx := neA_cls N (by k_mem) (by k_mem) (by intro e; cases e)
  have hnbd_td : NeA bd td := neA_dict N (by k_mem) (by k_mem) (by show (20 : Nat) ≠ 4; decide)
  have hnbd_lc : NeA bd lc := neA_cls N (by k_mem) (by k_mem) (by intro e; injection e with e; exact absurd e (by decide))
  have hnbd_mk : NeA bd mk := neA_cls N (by k_mem) (by k_mem) (by intro e; cases e)
  have hnbd_mkd : NeA bd mkd := neA_dict N (by k_mem) (by k_mem) (by show (20 : Nat) ≠ 1; decide)
  have hnbd_ls : NeA bd ls := neA_cls N (by k_mem) (by k_mem) (by intro e; injection e with e; exact absurd e (by decide))
  have hnbd_lk : NeA bd lk := neA_cls N (by k_mem) (by k_mem) (by intro e; injection e with e; exact absurd e (by decide))
  have hntx_td : NeA tx td := neA_cls N (by k_mem) (by k_mem) (by intro e; cases e)
  have hntx_lc : NeA tx lc := neA_cls N (by k_mem) (by k_mem) (by intro e; cases e)
  have hntx_mk : NeA tx mk := neA_cls N (by k_mem) (by k_mem) (by intro e; injection e with e; exact absurd e (by decide))
  have hntx_mkd : NeA tx mkd := neA_cls N (by k_mem) (by k_mem) (by intro e; cases e)
  have hntx_ls : NeA tx ls := neA_cls N (by k_mem) (by k_mem) (by intro e; cases e)
  have hntx_lk : NeA tx lk := neA_cls N (by k_mem) (by k_mem) (by intro e; cases e)
  have hntd_lc : NeA td lc := neA_cls N (by k_mem) (by k_mem) (by intro e; injection e with e; exact absurd e (by decide))
  have hntd_mk : NeA td mk := neA_cls N (by k_mem) (by k_mem) (by intro e; cases e)
  have hntd_mkd : NeA td mkd := neA_dict N (by k_mem) (by k_mem) (by show (4 : Nat) ≠ 1; decide)
  have hntd_ls : NeA td ls := neA_cls N (by k_mem) (by k_mem) (by intro e; injection e with e; exact absurd e (by decide))
  have hntd_lk : NeA td lk := neA_cls N (by k_mem) (by k_mem) (by intro e; injection e with e; exact absurd e (by decide))
  have hnlc_mk : NeA lc mk := neA_cls N (by k_mem) (by k_mem) (by intro e; cases e)
  have hnlc_mkd : NeA lc mkd := neA_cls N (by k_mem) (by k_mem) (by intro e; injection e with e; exact absurd e (by decide))
  have hnmk_mkd : NeA mk mkd := neA_cls N (by k_mem) (by k_mem) (by intro e; cases e)
  have hnmk_ls : NeA mk ls := neA_cls N (by k_mem) (by k_mem) (by intro e; cases e)
  have hnmk_lk : NeA mk lk := neA_cls N (by k_mem) (by k_mem) (by intro e; cases e)
  have hnmkd_ls : NeA mkd ls := neA_cls N (by k_mem) (by k_mem) (by intro e; injection e with e; exact absurd e (by decide))
  have hnmkd_lk : NeA mkd lk := neA_cls N (by k_mem) (by k_mem) (by intro e; injection e with e; exact absurd e (by decide))
  have hRest : RestIs [(mk, instObj 262 mkd), (mkd, dictOf [ent w "rows" r1 (.ref rw)] 1), (rw, oR), (ls, listOf #[] kl)] := Eq.refl [(mk, instObj 262 mkd), (mkd, dictOf [ent w "rows" r1 (.ref rw)] 1), (rw, oR), (ls, listOf #[] kl)]
  have hTwo : TextIs tx lc := Eq.refl [tx, lc]
  have hRest7 : Rest7 tx td lc mk mkd rw lk := Eq.refl [tx, td, lc, mk, mkd, rw, lk]
  dsimp only [textEs, bufEs, ent] at N hRest
  k_steps
  all_goals first
    | (exfalso; omega)
    | (rename News _ _ _ _ => N9; refine bodyEndN_ (os := [_, _, _, _, _, _, _, _, _, _]) (by assumption) ⟨N9.get (by k_mem), N9.get (by k_mem), N9.get (by k_mem), N9.get (by k_mem), N9.get (by k_mem), N9.get (by k_mem), N9.get (by k_mem), N9.get (by k_mem), N9.get (by k_mem), N9.get (by k_mem), trivial⟩ ⟨⟨_, _, _, _, _, _, _, _, _, _, _, _, _, _, _, rfl, by assumption, ?_, ?_, rfl⟩⟩ <;> assumption)
end PN6

section PN7
theorem ncall_ofD {w : World} {f : Addr} {vs : List Value} {dep : Nat} {ds : List (Addr × Obj)} {post : List Obj → Value → Prop}
    {name qual : Str} {params : Arguments} {body : List Stmt} {scope : Scope} {dV kV doc pm cdv ct oc : Value} {an od : Option Addr} {osl : Array (Option Value)} {binds : List (Str × Value)}
    (ho : (Mine.hd.heap_1_39 w.params).lookup f = some ⟨oc, od, .func (fnOf name qual params body scope dV kV doc pm an cdv ct), osl⟩) (hcd : codeIn (Mine.hd.heap_1_39 w.params) cdv qual = true)
    (hbind : ∀ s : Shared, (Mine.hd.heap_1_39 w.params).In s.heap → BindsTo s (fnOf name qual params body scope dV kV doc pm an cdv ct) ⟨vs, []⟩ binds) (hloc : ∀ y ∈ binds, scope.names.lookup y.1 = some .local)
    (hco : scope.isCoroutine = false) (hgen : scope.isGenerator = false) (hk : scope.kind = .function) (hcell : ∀ x ∈ scope.names, x.2 ≠ .cell) (hd1 : 1 ≤ dep)
    (h : ∀ (p : Program) (loose : List Str) (mean : ExcName → Option Value) (mg mb : Str → Option Value) (dp un : Nat) (gd : Option (List Code)) (outer : List Env) (A₀ : Around) (base g : Heap) (L : Addr) (h₁ : Heap) (s : Shared),
      Below A₀ base outer g → Fr g L h₁ (fun y => binds.reverse.lookup y) → News g L h₁ ds → (Mine.hd.heap_1_39 w.params).In g → Top p loose mean mg mb g →
      dp + dep < recursionLimit + 1 → un + 8 * dep < cLine + 3 →
      wpAny (model PySem.Challenge.rw_rg0137_01.row.prog w) (ktrTop dp un gd qual scope L f cdv [] outer) (execs body (envOf qual scope L f cdv))
        (fun fl s' => BodyEndN g s ds post (match fl with | .ret v => v | _ => .none) s') (fun _ _ => False) { s with heap := h₁ }) :
    NCall w f vs dep ds post := by
  intro p loose mean mg mb dp un gd cn cs a ccd cl outer A₀ base h₀ L m s Q E B F X T hck N hdp hun hret
  refine wpAny_call ?_
  obtain ⟨FG, BG, st, lv⟩ := groundX (A := ktrTop dp un gd cn cs L a ccd cl outer) (R := fun r s' => match r with | .ok (.ret v) => Q v s' | .ok _ => False | .error e => E e s') B F N rfl rfl hck
  refine codeAny_call_def (fd := fnOf name qual params body scope dV kV doc pm an cdv ct) (body := body) (binds := binds) ?_ ((X.keeps F.keep) _ _ ho) rfl (T.nolimit.keeps F.keep) (codeRec_of (X.keeps F.keep) hcd) rfl (hbind s (X.keeps F.keep)) hcell hloc (fun h₁ hns hk₁ => ?_) hco hgen hk
  · show dp < recursionLimit
    omega
  refine wpAny_mono (h p loose mean mg mb (dp + 1) (un + 3) gd _ _ base _ s.heap.objs.size h₁ { s with toks := s.toks + binds.length } BG ⟨hns, fun b o e => hk₁ b o (of_hideAll _ e), Nat.le_of_eq (hideAll_size _ _)⟩
    (fun p hp => ⟨hk₁ _ _ (N p hp).1, Nat.ne_of_lt (Heap.lt_size (N p hp).1), hideAll_none _ (List.mem_map_of_mem hp)⟩) (X.keeps st) (T.keeps st) (by omega) (by omega)) (fun fl s' hl => ?_) fun _ _ y => y.elim
  obtain ⟨h', tk, os, rfl, k, hs, hp⟩ := hl
  have kk : ∀ b ob, b ∉ ds.map (·.1) → s.heap.get? b = some ob → h'.get? b = some ob := fun b ob hb e => k _ _ (hideAll_get _ e hb)
  have nm : ∀ b o, h₀.get? b = some o → b ∉ ds.map (·.1) := fun b o e q => by
    obtain ⟨p, hp, rfl⟩ := List.mem_map.mp q
    rw [(N p hp).2.2] at e; cases e
  refine hret _ _ _ _ ⟨?_, fun b o e => kk b o (nm b o e) (F.keep b o e), F.above⟩ kk hs hp
  obtain ⟨oL, es, ep, hL, hLd, hLk, hLf⟩ := F.ns
  exact ⟨oL, es, ep, kk _ _ (fun q => by
    obtain ⟨p, hp, e⟩ := List.mem_map.mp q
    exact (N p hp).2.1 e) hL, hLd, hLk, hLf⟩
set_option maxHeartbeats 2000000 in
theorem insert_c (w : World) (b bd tx td lc lk mk mkd rw ls : Addr) (oR : Obj) (vc vk : List Value) (ks a1 a2 a3 : List Int) (kc kk kl : Nat) (q : Nat → Tok) (u1 u2 u3 u4 u5 u6 u7 u8 p1 p2 p3 p4 v1 v2 v3 r1 : Tok) (hlk0 : 1 ≤ (a1 ++ a2 ++ a3).length) (hlk : (a1 ++ a2 ++ a3).length ≤ 50) (hi : IntsAre vc ks) (hl : ks.length = 8) (hk : IntsAre vk (a1 ++ a2 ++ a3)) (hne : NeA lc lk) (hne2 : NeA lc ls) (hne3 : NeA ls lk) (hrw : NeAll rw [b, bd, tx, td, lc, mk, mkd, ls, lk])
    (hlo : (rw == sysModules) = false) (hri : Obj.IsDictOf (PySem.intKind PySem.Challenge.rw_rg0137_01.row.prog w) oR []) (hfi : PyProof.V.FlatPairs PyData.int ([] : List (Int × Value)) []) :
    NCall w 489 [.ref b, .ref lk] 6 [(b, instObj 403 bd), (bd, dictOf (bufEs w tx mk ls q u1 u2 u3 u4 u5 u6 u7 u8 1 1 1 1) 20), (tx, instObj 192 td), (td, dictOf (textEs w lc p1 p2 p3 p4 v1 v2 v3 0 8) 4), (lc, listOf vc.toArray kc), (mk, instObj 262 mkd), (mkd, dictOf [ent w "rows" r1 (.ref rw)] 1), (rw, oR), (ls, listOf #[] kl), (lk, listOf vk.toArray kk)]
      (fun os v => ∃ point zv gs ge ticks cticks u3' u5' u6' u7' v2' v3' vc' kc' pad, os = [instObj 403 bd, dictOf (bufEs w tx mk ls q u1 u2 u3' u4 u5' u6' u7' u8 point zv ticks cticks) 20, instObj 192 td, dictOf (textEs w lc p1 p2 p3 p4 v1 v2' v3' gs ge) 4, listOf (List.toArray vc') kc', instObj 262 mkd, dictOf [ent w "rows" r1 (.ref rw)] 1, oR, listOf #[] kl, listOf vk.toArray kk] ∧ IntsAre vc' (a1 ++ a2 ++ a3 ++ pad) ∧ gs = ((a1 ++ a2 ++ a3).length : Nat) ∧ zv = gs + 1 ∧ v = .none) := by
  w_top off
  k_with_none
  k_with "k_ne" => first | with_reducible_and_instances (first | exact LtAll.ne (by assumption) (by k_mem) | exact LtAll.en (by assumption) (by k_mem) | exact NeA.out (by assumption) | exact NeA.tuo (by assumption)) | (refine neN ?_; (try dsimp only); omega)
  k_with "call builtin:len" => (k_here; (with_reducible show wpAny _ _ (call (Value.builtin _) [Value.ref _]) _ _ _); k_dflt (refine' kst_len ?mqk1 ?mqk2 ?mqk3 ?mqk4 ?_; (case mqk1 => k_asm); (case mqk2 => k_mem); (case mqk3 => exact IntsAre.length (by assumption)); (case mqk4 => omega)))
  k_with "call ref" => (k_here; k_dflt (
      (rename RestIs _ => mqhr8); refine' ncall_useR (put_c _ _ _ _ _ _ _ _ _ _ _ _ _ _ _ _ _ _ _ _ _ _ _ _ _ _ _ _ _ _ _ _ _ _ _ _ _ _ _ _  ?mqh1 ?mqh2 ?mqh3 ?mqh4 ?mqh5 ?mqh6 ?mqh7 ?mqh8 ?mqh9 ?mqh10 ?mqh11 ?mqh12 ?mqh13) mqhr8 ?mqB ?mqF ?mqX ?mqN ?mqT ?mqk ?mqds ?mqrest ?mqoff ?mqd ?mqu ?_
      (case mqB => k_asm)
      (case mqF => k_asm)
      (case mqX => k_asm)
      (case mqN => k_asm)
      (case mqT => k_asm)
      (case mqk => first | exact rfl | assumption)
      (case mqds => lcg_sub)
      (case mqrest => lcg_sub)
      (case mqoff => (repeat' (first | k_ne | exact List.forall_mem_nil _ | refine List.forall_mem_cons.mpr ⟨?_, ?_⟩)))
      (case mqh1 => rfl)
      (case mqh6 => assumption)
      (case mqh4 => assumption)
      (case mqh2 => assumption)
      (case mqh3 => assumption)
      (case mqh5 => assumption)
      (case mqh7 => assumption)
      (case mqh8 => assumption)
      (case mqh9 => assumption)
      (case mqh10 => assumption)
      (case mqh11 => assumption)
      (case mqh12 => with_reducible assumption)
      (case mqh13 => with_reducible assumption)
      (case mqd => first | omega | ktr_room)
      (case mqu => first | omega | ktr_units)
      intro v' h' tk' os' F' N' P'
      obtain ⟨point', zv', gs', ge', tc', cc', u3', u5', u6', u7', v2', v3', vc', kc', pad', eo', hI', hg', hz', ev'⟩ := P'
      subst eo'
      subst ev'
      try dsimp only [newLed] at N'
      try dsimp only
      try k_sweep))
  try (unfold NCall; k_fill; fail)
  refine' ncall_ofD (binds := [("buffer", .ref b), ("codes", .ref lk), ("before_markers", .bool false)]) ?k6 ?k7 ?k9 ?kB ?c2 ?c3 ?c4 ?c5 ?c6 ?_
  (case k6 => k_is)
  (case k7 => k_is)
  (case k9 => intro _ X9; exact binds_K X9 rfl (by k_is) rfl rfl rfl)
  (case c5 => decide)
  (case kB => exact locs rfl)
  (case c2 => exact rfl)
  (case c3 => exact rfl)
  (case c4 => exact rfl)
  (case c6 => decide)
  intro p loose mean mg mb dp un gd outer A₀ base g L h₁ s B F N X T hd hu
  try dsimp only
  try k_fold
  have hRest : RestIs [] := Eq.refl []
  dsimp only [textEs, bufEs, ent] at N
  k_steps
  all_goals first
    | (rename News _ _ _ _ => N9; refine bodyEndN_ (os := [_, _, _, _, _, _, _, _, _, _]) (by assumption) ⟨N9.get (by k_mem), N9.get (by k_mem), N9.get (by k_mem), N9.get (by k_mem), N9.get (by k_mem), N9.get (by k_mem), N9.get (by k_mem), N9.get (by k_mem), N9.get (by k_mem), N9.get (by k_mem), trivial⟩ ⟨⟨_, _, _, _, _, _, _, _, _, _, _, _, _, _, _, rfl, by assumption, ?_, ?_, rfl⟩⟩ <;> assumption)
end PN7

section PF20
theorem neA_mk {a b : Addr} (h : a ≠ b) : NeA a b := h
local macro_rules | `(tactic| k_lt2 $h:ident) => `(tactic| ((have h0' := neA_of $h); (replace $h := ltAll_trans (by assumption) $h)))
set_option maxHeartbeats 2000000 in
theorem law_p5 (w : World) {s : Shared}
    {qual : Str} {body : List Stmt} {scope : Scope} {cdv : Value} (hat : LawAt w qual body scope cdv)
    {p : Program} {loose : List Str} {mean : ExcName → Option Value} {mg mb : Str → Option Value} {A₀ : Around} {base g : Heap} {L : Addr} {h₁ : Heap} {tk : Nat} {o1 o2 o3 o4 o5 o6 o7 oR : Obj} {m : Str → Option Value}
    (B : Below A₀ base [] g) (X : (Mine.hd.heap_1_39 w.params).In g) (T : Top p loose mean mg mb g)
    {lg ls rw mk mkd lc tx td b bd lr ld la : Addr} {vc vg vr vd va : List Value} {nr nd na : List Int} {kc kg kr kd ka : Nat} {tab first last : Int} {tt tf tl : Tok}
    {q1 q2 q3 q4 q5 q6 q7 q8 q9 q10 q11 q12 q13 q14 q15 q16 q17 q18 q19 q20 u1 u2 u3 u4 u5 u6 u7 u8 p1 p2 p3 p4 v1 v2 v3 r1 : Tok}
    (F : Fr g L h₁ (fun y => if y = "given" then some (.ref lg) else if y = "last" then some (.int last tl) else if y = "first" then some (.int first tf) else m y))
    (N0 : News g L h₁ [(lg, listOf vg.toArray kg), (ls, listOf #[] 0), (rw, oR), (mk, instObj 262 mkd), (mkd, dictOf [ent w "rows" r1 (.ref rw)] 1), (lc, listOf vc.toArray kc), (tx, instObj 192 td), (td, dictOf (textEs w lc p1 p2 p3 p4 v1 v2 v3 0 8) 4), (b, instObj 403 bd), (bd, dictOf [ent w "number" q1 (.int 1 u1), ent w "name" q2 (.str "a" u2), ent w "text" q3 (.ref tx), ent w "markers" q4 (.ref mk), ent w "point" q5 (.int 1 u3), ent w "begv" q6 (.int 1 u4), ent w "zv" q7 (.int 1 u5), ent w "mark" q8 (.none), ent w "is_live" q9 (.bool true), ent w "is_read_only" q10 (.bool false), ent w "ticks" q11 (.int 1 u6), ent w "codes_ticks" q12 (.int 1 u7), ent w "saved_ticks" q13 (.int 1 u8), ent w "listeners" q14 (.ref ls), ent w "undo" q15 (.none), ent w "props" q16 (.none), ent w "overlays" q17 (.none), ent w "locals" q18 (.none), ent w "syntax" q19 (.none), ent w "file" q20 (.none)] 20), (lr, listOf vr.toArray kr), (ld, listOf vd.toArray kd), (la, listOf va.toArray ka), (L + 1 + 1 + 1 + 1 + 1 + 1 + 1, o1), (L + 1 + 1 + 1 + 1 + 1 + 1, o2), (L + 1 + 1 + 1 + 1 + 1, o3), (L + 1 + 1 + 1 + 1, o4), (L + 1 + 1 + 1, o5), (L + 1 + 1, o6), (L + 1, o7)])
    (hlo : (rw == sysModules) = false) (hfi : PyProof.V.FlatPairs PyData.int ([] : List (Int × Value)) []) (hri : Obj.IsDictOf (PySem.intKind PySem.Challenge.rw_rg0137_01.row.prog w) oR [])
    (d1 : o1.data = .cell none) (d2 : o2.data = .cell none) (d3 : o3.data = .cell (some (.ref b))) (d4 : o4.data = .cell (some (.ref lr))) (d5 : o5.data = .cell (some (.int tab tt))) (d6 : o6.data = .cell (some (.ref la))) (d7 : o7.data = .cell (some (.ref ld)))
    (nnb : NeAll b [lg, lr, ld, la, L + 1 + 1 + 1 + 1 + 1 + 1 + 1, L + 1 + 1 + 1 + 1 + 1 + 1, L + 1 + 1 + 1 + 1 + 1, L + 1 + 1 + 1 + 1, L + 1 + 1 + 1, L + 1 + 1, L + 1]) (nnbd : NeAll bd [lg, lr, ld, la, L + 1 + 1 + 1 + 1 + 1 + 1 + 1, L + 1 + 1 + 1 + 1 + 1 + 1, L + 1 + 1 + 1 + 1 + 1, L + 1 + 1 + 1 + 1, L + 1 + 1 + 1, L + 1 + 1, L + 1]) (nntx : NeAll tx [lg, lr, ld, la, L + 1 + 1 + 1 + 1 + 1 + 1 + 1, L + 1 + 1 + 1 + 1 + 1 + 1, L + 1 + 1 + 1 + 1 + 1, L + 1 + 1 + 1 + 1, L + 1 + 1 + 1, L + 1 + 1, L + 1]) (nntd : NeAll td [lg, lr, ld, la, L + 1 + 1 + 1 + 1 + 1 + 1 + 1, L + 1 + 1 + 1 + 1 + 1 + 1, L + 1 + 1 + 1 + 1 + 1, L + 1 + 1 + 1 + 1, L + 1 + 1 + 1, L + 1 + 1, L + 1]) (nnlc : NeAll lc [ls, lg, lr, ld, la, L + 1 + 1 + 1 + 1 + 1 + 1 + 1, L + 1 + 1 + 1 + 1 + 1 + 1, L + 1 + 1 + 1 + 1 + 1, L + 1 + 1 + 1 + 1, L + 1 + 1 + 1, L + 1 + 1, L + 1]) (nnmk : NeAll mk [lg, lr, ld, la, L + 1 + 1 + 1 + 1 + 1 + 1 + 1, L + 1 + 1 + 1 + 1 + 1 + 1, L + 1 + 1 + 1 + 1 + 1, L + 1 + 1 + 1 + 1, L + 1 + 1 + 1, L + 1 + 1, L + 1]) (nnmkd : NeAll mkd [lg, lr, ld, la, L + 1 + 1 + 1 + 1 + 1 + 1 + 1, L + 1 + 1 + 1 + 1 + 1 + 1, L + 1 + 1 + 1 + 1 + 1, L + 1 + 1 + 1 + 1, L + 1 + 1 + 1, L + 1 + 1, L + 1]) (nnrw : NeAll rw [b, bd, tx, td, lc, mk, mkd, ls, lg, lr, ld, la, L + 1 + 1 + 1 + 1 + 1 + 1 + 1, L + 1 + 1 + 1 + 1 + 1 + 1, L + 1 + 1 + 1 + 1 + 1, L + 1 + 1 + 1 + 1, L + 1 + 1 + 1, L + 1 + 1, L + 1]) (nnls : NeAll ls [lg, lr, ld, la, L + 1 + 1 + 1 + 1 + 1 + 1 + 1, L + 1 + 1 + 1 + 1 + 1 + 1, L + 1 + 1 + 1 + 1 + 1, L + 1 + 1 + 1 + 1, L + 1 + 1 + 1, L + 1 + 1, L + 1])
    (nnld : NeAll ld [lg, lr, la, L + 1 + 1 + 1 + 1 + 1 + 1 + 1, L + 1 + 1 + 1 + 1 + 1 + 1, L + 1 + 1 + 1 + 1 + 1, L + 1 + 1 + 1 + 1, L + 1 + 1 + 1, L + 1 + 1, L + 1])
    (hlg : @Ne Nat (L + 1 + 1 + 1 + 1 + 1 + 1) lg ∧ @Ne Nat (L + 1 + 1 + 1 + 1 + 1 + 1 + 1) lg) (hlr : @Ne Nat (L + 1 + 1 + 1 + 1 + 1 + 1) lr ∧ @Ne Nat (L + 1 + 1 + 1 + 1 + 1 + 1 + 1) lr)
    (hid : IntsAre vd nd) (hld : nd.length ≤ 40) (hia : IntsAre va na) (hna : na = [] ∨ na = [98, 10] ∨ na = [9, 10, 10]) (htab : tab = 8 ∨ tab = 4 ∨ tab = 3)
    (hir : IntsAre vr nr) (hig : IntsAre vg nr) (hic : IntsAre vc (List.replicate 8 0)) (hmr : ∀ x ∈ nr, x ∈ ([97, 1, 9, 128, 127, 160, 9, 31] : List Int)) (hr1 : 1 ≤ nr.length) (hr8 : nr.length ≤ 8) (hna3 : na.length ≤ 3)
    (hf0 : 0 ≤ first) (hf1 : first ≤ 100) (hl0 : first ≤ last) (hl1 : last ≤ 100) :
    LawGo w g s L qual scope cdv body 5 h₁ tk := by
  w_top off
  k_with_none
  k_with "k_ne" => first | with_reducible_and_instances (first | exact LtAll.ne (by assumption) (by k_mem) | exact LtAll.en (by assumption) (by k_mem) | exact NeA.out (by assumption) | exact NeA.tuo (by assumption) | exact NeAll.out (by assumption) (by k_mem) | exact NeAll.tuo (by assumption) (by k_mem)) | exact EitherA.ne (by with_reducible_and_instances assumption) (by k_ne) (by k_ne) | exact EitherA.en (by with_reducible_and_instances assumption) (by k_ne) (by k_ne) | (refine neN ?_; (try dsimp only); omega)
  k_with "BodyEnd" => (refine bodyEnd_ (by assumption) ?_)
  k_with "execs cons" => (k_here; (with_reducible show wpAny _ _ (execs (Stmt.Assign _ (Expr.ListComp _ _ _ _) _ :: _) _) _ _ _); refine stopHere ?_)
  k_with "call ref" => (k_here; k_dflt (
      refine' draw_use ?mqB ?mqF ?mqX ?mqN ?mqT ?mqk ?mqU ?mqi ?mqm ?mqm2 ?mql ?mqd ?mqu ?_
      (case mqB => k_asm)
      (case mqF => k_asm)
      (case mqX => k_asm)
      (case mqN => k_asm)
      (case mqT => k_asm)
      (case mqk => first | exact rfl | assumption)
      (case mqU => k_updF)
      (case mqi => l_ints)
      (case mqm => decide)
      (case mqm2 => decide)
      (case mql => first | omega | (simp only [List.length_map, List.length_take]; omega))
      (case mqd => decide)
      (case mqu => decide)
      intro r' t' h' tk' vs' ns' n' h0' h1' F' N' hI' hl'
      try dsimp only at N'
      try k_sweep))
  k_with "subscriptTail" => (k_here; (with_reducible show wpAny _ _ (subscriptTail _ _ (Value.ref _) (Value.int _ _)) _ _ _); (k_dflt (refine' item_lit ?mqN ?mqm ?mqi ?mqk0 ?mqk1 ?mqkb ?_ ?mqks; (case mqN => k_asm); (case mqm => k_mem); (case mqi => (first | exact IntsAre.nil | exact (IntsAre.cons _ _ IntsAre.nil) | exact (IntsAre.cons _ _ (IntsAre.cons _ _ IntsAre.nil)) | exact (IntsAre.cons _ _ (IntsAre.cons _ _ (IntsAre.cons _ _ IntsAre.nil))) | exact (IntsAre.cons _ _ (IntsAre.cons _ _ (IntsAre.cons _ _ (IntsAre.cons _ _ (IntsAre.cons _ _ (IntsAre.cons _ _ (IntsAre.cons _ _ (IntsAre.cons _ _ IntsAre.nil)))))))))); (case mqk0 => first | omega | exact Int.fmod_nonneg_of_pos _ (by decide)); (case mqk1 => first | (simp only [List.length_cons, List.length_nil]; omega) | exact Int.fmod_lt_of_pos _ (by decide)); (case mqkb => first | omega | exact Int.lt_trans (Int.fmod_lt_of_pos _ (by decide)) (by decide)); (case mqks => with_unfolding_all rfl))); intro x' t' hx')
  k_with "subscriptTail" => (k_here; (with_reducible show wpAny _ _ (subscriptTail _ _ (Value.ref _) (Value.int _ _)) _ _ _); (rename News _ _ _ _ => hN9); (k_dflt (refine' pick2 ?mqN ?mqD ?mqh0 ?mqh3 ?mqa ?mqb ?mqia ?mqib ?_ ?mqks; (case mqN => exact hN9); (case mqD => k_mem); (case mqh0 => omega); (case mqh3 => omega); (case mqa => k_mem); (case mqb => k_mem); (case mqia => (first | exact IntsAre.nil | exact (IntsAre.cons _ _ IntsAre.nil) | exact (IntsAre.cons _ _ (IntsAre.cons _ _ IntsAre.nil)) | exact (IntsAre.cons _ _ (IntsAre.cons _ _ (IntsAre.cons _ _ IntsAre.nil))) | exact (IntsAre.cons _ _ (IntsAre.cons _ _ (IntsAre.cons _ _ (IntsAre.cons _ _ (IntsAre.cons _ _ (IntsAre.cons _ _ (IntsAre.cons _ _ (IntsAre.cons _ _ IntsAre.nil)))))))))); (case mqib => (first | exact IntsAre.nil | exact (IntsAre.cons _ _ IntsAre.nil) | exact (IntsAre.cons _ _ (IntsAre.cons _ _ IntsAre.nil)) | exact (IntsAre.cons _ _ (IntsAre.cons _ _ (IntsAre.cons _ _ IntsAre.nil))) | exact (IntsAre.cons _ _ (IntsAre.cons _ _ (IntsAre.cons _ _ (IntsAre.cons _ _ (IntsAre.cons _ _ (IntsAre.cons _ _ (IntsAre.cons _ _ (IntsAre.cons _ _ IntsAre.nil)))))))))); (case mqks => with_unfolding_all rfl))); intro x' vx' nx' xs' N' hx' hI' hxs'; (replace hx' := eitherA_of hx'); (have hxl' : List.length xs' ≤ 3 := (by rcases hxs' with h | h <;> (rw [h]; decide))); clear hN9; (try dsimp only at N'); (try k_sweep))
  k_with "binaryOp Add ref ref" => (k_here; (with_reducible show wpAny _ _ (binaryOp _ (Value.ref _) (Value.ref _)) _ _ _); k_dflt (refine' kmk_add_ints ?mqF ?mqN ?mqa ?mqb ?mqi ?mqj ?_ ?mqz; (case mqF => k_asm); (case mqN => k_asm); (case mqa => kmk_list); (case mqb => kmk_list); (case mqi => l_ints); (case mqj => l_ints); (case mqz => (simp only [sizeLine_eq, List.length_append]; omega))); intro D' ws' h' F' N' l1 hI'; (try k_lt l1); (try k_sweep))
  k_with "call ref" => (k_here; k_dflt (
      (rename RestIs _ => mqhr8); refine' ncall_useR (insert_c _ _ _ _ _ _ _ _ _ _ _ _ _ _ _ _ _ _ _ _ _ _ _ _ _ _ _ _ _ _ _ _ _ _ _ _ _ _ ?mqh2 ?mqh3 ?mqh4 ?mqh5 ?mqh6 ?mqh7 ?mqh8 ?mqh9 ?mqh10 ?mqh11 ?mqh12 ?mqh13) mqhr8 ?mqB ?mqF ?mqX ?mqN ?mqT ?mqk ?mqds ?mqrest ?mqoff ?mqd ?mqu ?_
      (case mqB => k_asm)
      (case mqF => k_asm)
      (case mqX => k_asm)
      (case mqN => k_asm)
      (case mqT => k_asm)
      (case mqk => first | exact rfl | assumption)
      (case mqds => lcg_sub)
      (case mqrest => lcg_sub)
      (case mqoff => (repeat' (first | k_ne | exact List.forall_mem_nil _ | refine List.forall_mem_cons.mpr ⟨?_, ?_⟩)))
      (case mqh6 => assumption)
      (case mqh4 => assumption)
      (case mqh2 => ((simp only [List.length_append]); omega))
      (case mqh3 => ((simp only [List.length_append]); omega))
      (case mqh5 => exact List.length_replicate)
      (case mqh7 => (refine neA_mk ?_; k_ne))
      (case mqh8 => (refine neA_mk ?_; k_ne))
      (case mqh9 => (refine neA_mk ?_; k_ne))
      (case mqh10 => (refine neAll_of ?_; (iterate 9 (refine List.forall_mem_cons.mpr ⟨by k_ne, ?_⟩)); exact List.forall_mem_nil _))
      (case mqh11 => assumption)
      (case mqh12 => with_reducible assumption)
      (case mqh13 => with_reducible assumption)
      (case mqd => decide)
      (case mqu => decide)
      intro v' h' tk' os' F' N' P'
      obtain ⟨point', zv', gs', ge', tc', cc', u3', u5', u6', u7', v2', v3', vc', kc', pad', eo', hI', hg', hz', ev'⟩ := P'
      subst eo'
      subst ev'
      try dsimp only [newLed] at N'
      try dsimp only
      try k_sweep))
  have hK0 : True ∨ PCall w 35 [] 1 (fun _ => True) (fun _ _ _ => True) := by
    unfold PCall
    k_fill
    exact .inl trivial
  clear hK0
  have N : News g L h₁ [(lg, listOf vg.toArray kg), (ls, listOf #[] 0), (rw, oR), (mk, instObj 262 mkd), (mkd, dictOf [ent w "rows" r1 (.ref rw)] 1), (lc, listOf vc.toArray kc), (tx, instObj 192 td), (td, dictOf (textEs w lc p1 p2 p3 p4 v1 v2 v3 0 8) 4), (b, instObj 403 bd), (bd, dictOf (bufEs w tx mk ls (fun i => ([0, q1, q2, q3, q4, q5, q6, q7, q8, q9, q10, q11, q12, q13, q14, q15, q16, q17, q18, q19, q20] : List Tok).getD i 0) u1 u2 u3 u4 u5 u6 u7 u8 1 1 1 1) 20), (lr, listOf vr.toArray kr), (ld, listOf vd.toArray kd), (la, listOf va.toArray ka), (L + 1 + 1 + 1 + 1 + 1 + 1 + 1, o1), (L + 1 + 1 + 1 + 1 + 1 + 1, o2), (L + 1 + 1 + 1 + 1 + 1, o3), (L + 1 + 1 + 1 + 1, o4), (L + 1 + 1 + 1, o5), (L + 1 + 1, o6), (L + 1, o7)] := N0
  clear N0
  have hRest : RestIs [(lg, listOf vg.toArray kg), (lr, listOf vr.toArray kr), (la, listOf va.toArray ka), (L + 1 + 1 + 1 + 1 + 1 + 1 + 1, o1), (L + 1 + 1 + 1 + 1 + 1 + 1, o2), (L + 1 + 1 + 1 + 1 + 1, o3), (L + 1 + 1 + 1 + 1, o4), (L + 1 + 1 + 1, o5), (L + 1 + 1, o6)] := Eq.refl [(lg, listOf vg.toArray kg), (lr, listOf vr.toArray kr), (la, listOf va.toArray ka), (L + 1 + 1 + 1 + 1 + 1 + 1 + 1, o1), (L + 1 + 1 + 1 + 1 + 1 + 1, o2), (L + 1 + 1 + 1 + 1 + 1, o3), (L + 1 + 1 + 1 + 1, o4), (L + 1 + 1 + 1, o5), (L + 1 + 1, o6)]
  obtain ⟨rfl, rfl, rfl, rfl⟩ := law_lit hat (by k_is)
  have hat' := hat
  clear hat
  unfold LawGo
  try dsimp only [List.drop]
  try k_fold
  k_steps
  unfold StopHere
  rename News _ _ _ _ => N9
  rename Fr _ _ _ _ => F9
  rename (_ : Int) = _ + 1 => hz9
  rename (_ : Int) = ((_ : Nat) : Int) => hg9
  subst hz9
  subst hg9
  refine' law_p6 w hat' B X T (tab := tab) (nr := nr) (na := na) (tt := tt) F9 (fun q hq => N9 q ((List.forall_mem_cons.mpr ⟨?mb, List.forall_mem_cons.mpr ⟨?mbd, List.forall_mem_cons.mpr ⟨?mtx, List.forall_mem_cons.mpr ⟨?mtd, List.forall_mem_cons.mpr ⟨?mlc, List.forall_mem_cons.mpr ⟨?mlg, List.forall_mem_cons.mpr ⟨?mlr, List.forall_mem_cons.mpr ⟨?mla, List.forall_mem_cons.mpr ⟨?mc1, List.forall_mem_cons.mpr ⟨?mc2, List.forall_mem_cons.mpr ⟨?mc3, List.forall_mem_cons.mpr ⟨?mc4, List.forall_mem_cons.mpr ⟨?mc5, List.forall_mem_cons.mpr ⟨?mc6, List.forall_mem_nil _⟩⟩⟩⟩⟩⟩⟩⟩⟩⟩⟩⟩⟩⟩) q hq)) ?g1 ?g2 ?g3 ?g4 ?g5 ?g6 ?V hlg hlr hig hia hir hna htab hmr hr1 hr8 hna3 ?hnt hf0 hf1 hl0 hl1
  (case mc1 => k_mem)
  (case g1 => assumption)
  (case mc2 => k_mem)
  (case g2 => assumption)
  (case mc3 => k_mem)
  (case g3 => assumption)
  (case mc4 => k_mem)
  (case g4 => assumption)
  (case mc5 => k_mem)
  (case g5 => assumption)
  (case mc6 => k_mem)
  (case g6 => assumption)
  (case mb => k_mem)
  (case mbd => k_mem)
  (case mtx => k_mem)
  (case mtd => k_mem)
  (case mlc => k_mem)
  (case mlg => k_mem)
  (case mlr => k_mem)
  (case mla => k_mem)
  (case V => exact ⟨rfl, rfl, rfl, rfl, rfl, rfl, rfl, rfl, by assumption⟩)
  (case hnt => (rename _ = [] ∨ _ = [10, 97] => h9; rcases h9 with h | h <;> rw [h] <;> decide))
end PF20

section PF14
local macro_rules | `(tactic| k_lt2 $h:ident) => `(tactic| ((have h0' := neA_of $h); (replace $h := ltAll_trans (by assumption) $h)))
set_option maxHeartbeats 4000000 in
theorem law_p3 (w : World) {s : Shared}
    {qual : Str} {body : List Stmt} {scope : Scope} {cdv : Value} (hat : LawAt w qual body scope cdv)
    {p : Program} {loose : List Str} {mean : ExcName → Option Value} {mg mb : Str → Option Value} {A₀ : Around} {base g : Heap} {L : Addr} {h₁ : Heap} {tk : Nat} {o1 o2 o3 o4 o5 o6 o7 : Obj} {m : Str → Option Value}
    (B : Below A₀ base [] g) (X : (Mine.hd.heap_1_39 w.params).In g) (T : Top p loose mean mg mb g)
    {lr ld la : Addr} {vr vd va : List Value} {nr nd na : List Int} {kr kd ka : Nat} {tab : Int} {tt : Tok}
    (F : Fr g L h₁ m)
    (N : News g L h₁ [(lr, listOf vr.toArray kr), (ld, listOf vd.toArray kd), (la, listOf va.toArray ka), (L + 1 + 1 + 1 + 1 + 1 + 1 + 1, o1), (L + 1 + 1 + 1 + 1 + 1 + 1, o2), (L + 1 + 1 + 1 + 1 + 1, o3), (L + 1 + 1 + 1 + 1, o4), (L + 1 + 1 + 1, o5), (L + 1 + 1, o6), (L + 1, o7)])
    (d1 : o1.data = .cell none) (d2 : o2.data = .cell none) (d3 : o3.data = .cell none) (d4 : o4.data = .cell (some (.ref lr))) (d5 : o5.data = .cell (some (.int tab tt))) (d6 : o6.data = .cell (some (.ref la))) (d7 : o7.data = .cell (some (.ref ld)))
    (e7 : NeA (L + 1 + 1 + 1 + 1 + 1 + 1 + 1) ld) (e6 : NeA (L + 1 + 1 + 1 + 1 + 1 + 1) ld) (e5 : NeA (L + 1 + 1 + 1 + 1 + 1) ld) (e4 : NeA (L + 1 + 1 + 1 + 1) ld) (e3 : NeA (L + 1 + 1 + 1) ld) (e2 : NeA (L + 1 + 1) ld) (e1 : NeA (L + 1) ld)
    (fd : NeA ld lr) (fa : NeA la lr) (f7 : NeA (L + 1 + 1 + 1 + 1 + 1 + 1 + 1) lr) (f6 : NeA (L + 1 + 1 + 1 + 1 + 1 + 1) lr) (f5 : NeA (L + 1 + 1 + 1 + 1 + 1) lr) (f4 : NeA (L + 1 + 1 + 1 + 1) lr) (f3 : NeA (L + 1 + 1 + 1) lr) (f2 : NeA (L + 1 + 1) lr) (f1 : NeA (L + 1) lr)
    (hla : @LT.lt Nat _ (L + 1 + 1 + 1 + 1 + 1 + 1 + 1) la) (hda : NeA la ld)
    (hid : IntsAre vd nd) (hld : nd.length ≤ 40) (hia : IntsAre va na) (hna : na = [] ∨ na = [98, 10] ∨ na = [9, 10, 10]) (htab : tab = 8 ∨ tab = 4 ∨ tab = 3)
    (hir : IntsAre vr nr) (hmr : ∀ x ∈ nr, x ∈ ([97, 1, 9, 128, 127, 160, 9, 31] : List Int)) (hr1 : 1 ≤ nr.length) (hr8 : nr.length ≤ 8) (hna3 : na.length ≤ 3) :
    LawGo w g s L qual scope cdv body 3 h₁ tk := by
  w_top off
  k_with_none
  k_with "k_ne" => first | with_reducible_and_instances (first | exact LtAll.ne (by assumption) (by k_mem) | exact LtAll.en (by assumption) (by k_mem) | exact NeA.out (by assumption) | exact NeA.tuo (by assumption) | exact NeAll.out (by assumption) (by k_mem) | exact NeAll.tuo (by assumption) (by k_mem)) | exact EitherA.ne (by with_reducible_and_instances assumption) (by k_ne) (by k_ne) | exact EitherA.en (by with_reducible_and_instances assumption) (by k_ne) (by k_ne) | (refine neN ?_; (try dsimp only); omega)
  k_with "BodyEnd" => (refine bodyEnd_ (by assumption) ?_)
  k_with "execs cons" => (k_here; (with_reducible show wpAny _ _ (execs (Stmt.Expr _ _ :: _) _) _ _ _); refine stopHere ?_)
  k_with "call ref" => (k_here; k_dflt (
      refine' draw_use ?mqB ?mqF ?mqX ?mqN ?mqT ?mqk ?mqU ?mqi ?mqm ?mqm2 ?mql ?mqd ?mqu ?_
      (case mqB => k_asm)
      (case mqF => k_asm)
      (case mqX => k_asm)
      (case mqN => k_asm)
      (case mqT => k_asm)
      (case mqk => first | exact rfl | assumption)
      (case mqU => k_updF)
      (case mqi => l_ints)
      (case mqm => decide)
      (case mqm2 => decide)
      (case mql => first | omega | (simp only [List.length_map, List.length_take]; omega))
      (case mqd => decide)
      (case mqu => decide)
      intro r' t' h' tk' vs' ns' n' h0' h1' F' N' hI' hl'
      try dsimp only at N'
      try k_sweep))
  k_with "binaryOp Add ref ref" => (k_here; (with_reducible show wpAny _ _ (binaryOp _ (Value.ref _) (Value.ref _)) _ _ _); k_dflt (refine' kmk_add_ints ?mqF ?mqN ?mqa ?mqb ?mqi ?mqj ?_ ?mqz; (case mqF => k_asm); (case mqN => k_asm); (case mqa => kmk_list); (case mqb => kmk_list); (case mqi => l_ints); (case mqj => l_ints); (case mqz => (simp only [sizeLine_eq, List.length_append]; omega))); intro D' ws' h' F' N' l1 hI'; (try k_lt l1); (try k_sweep))
  k_with "binaryOp Mult ref int" => (k_here; k_dflt (refine' mul_one ?mqF ?mqN ?mql ?mqlo ?mqhi ?_; (case mqF => k_asm); (case mqN => k_asm); (case mql => k_mem); (case mqlo => omega); (case mqhi => omega)); intro D' ws' h' F' N' l1 hI'; (try k_lt l1); (try k_sweep))
  have hK0 : True ∨ PCall w 35 [] 1 (fun _ => True) (fun _ _ _ => True) := by
    unfold PCall
    k_fill
    exact .inl trivial
  clear hK0
  obtain ⟨rfl, rfl, rfl, rfl⟩ := law_lit hat (by k_is)
  have hat' := hat
  clear hat
  unfold LawGo
  try dsimp only [List.drop]
  try k_fold
  k_steps
  unfold StopHere
  rename News _ _ _ _ => N9
  rename Fr _ _ _ _ => F9
  refine' law_p5 w hat' B X T (tab := tab) (na := na) (nr := nr) (tt := tt) F9 (fun q hq => N9 q ((List.forall_mem_cons.mpr ⟨?mlg, List.forall_mem_cons.mpr ⟨?mls, List.forall_mem_cons.mpr ⟨?mrw, List.forall_mem_cons.mpr ⟨?mmk, List.forall_mem_cons.mpr ⟨?mmkd, List.forall_mem_cons.mpr ⟨?mlc, List.forall_mem_cons.mpr ⟨?mtx, List.forall_mem_cons.mpr ⟨?mtd, List.forall_mem_cons.mpr ⟨?mb, List.forall_mem_cons.mpr ⟨?mbd, List.forall_mem_cons.mpr ⟨?mlr, List.forall_mem_cons.mpr ⟨?mld, List.forall_mem_cons.mpr ⟨?mla, List.forall_mem_cons.mpr ⟨?mc1, List.forall_mem_cons.mpr ⟨?mc2, List.forall_mem_cons.mpr ⟨?mc3, List.forall_mem_cons.mpr ⟨?mc4, List.forall_mem_cons.mpr ⟨?mc5, List.forall_mem_cons.mpr ⟨?mc6, List.forall_mem_cons.mpr ⟨?mc7, List.forall_mem_nil _⟩⟩⟩⟩⟩⟩⟩⟩⟩⟩⟩⟩⟩⟩⟩⟩⟩⟩⟩⟩) q hq)) ?hlo ?hfi ?hri ?g1 ?g2 ?g3 ?g4 ?g5 ?g6 ?g7 ?nnb ?nnbd ?nntx ?nntd ?nnlc ?nnmk ?nnmkd ?nnrw ?nnls ?nnld ?hlg ⟨f6.out, f7.out⟩ ?hid ?hld hia hna htab hir ?hig ?hic hmr hr1 hr8 hna3 ?hf0 ?hf1 ?hl0 ?hl1
  (case mc1 => k_mem)
  (case g1 => assumption)
  (case mc2 => k_mem)
  (case g2 => assumption)
  (case mc3 => k_mem)
  (case g3 => assumption)
  (case mc4 => k_mem)
  (case g4 => assumption)
  (case mc5 => k_mem)
  (case g5 => assumption)
  (case mc6 => k_mem)
  (case g6 => assumption)
  (case mc7 => k_mem)
  (case g7 => assumption)
  (case mb => k_mem)
  (case mbd => k_mem)
  (case mtx => k_mem)
  (case mtd => k_mem)
  (case mmk => k_mem)
  (case mmkd => k_mem)
  (case mrw => k_mem)
  (case mls => k_mem)
  (case mlc => k_mem)
  (case mlg => k_mem)
  (case mlr => k_mem)
  (case mld => k_mem)
  (case mla => k_mem)
  (case hlo => assumption)
  (case hfi => with_reducible assumption)
  (case hri => with_reducible assumption)
  (case nnb => (refine neAll_of ?_; (iterate 11 (refine List.forall_mem_cons.mpr ⟨by k_ne, ?_⟩)); exact List.forall_mem_nil _))
  (case nnbd => (refine neAll_of ?_; (iterate 11 (refine List.forall_mem_cons.mpr ⟨by k_ne, ?_⟩)); exact List.forall_mem_nil _))
  (case nntx => (refine neAll_of ?_; (iterate 11 (refine List.forall_mem_cons.mpr ⟨by k_ne, ?_⟩)); exact List.forall_mem_nil _))
  (case nntd => (refine neAll_of ?_; (iterate 11 (refine List.forall_mem_cons.mpr ⟨by k_ne, ?_⟩)); exact List.forall_mem_nil _))
  (case nnlc => (refine neAll_of ?_; (iterate 12 (refine List.forall_mem_cons.mpr ⟨by k_ne, ?_⟩)); exact List.forall_mem_nil _))
  (case nnmk => (refine neAll_of ?_; (iterate 11 (refine List.forall_mem_cons.mpr ⟨by k_ne, ?_⟩)); exact List.forall_mem_nil _))
  (case nnmkd => (refine neAll_of ?_; (iterate 11 (refine List.forall_mem_cons.mpr ⟨by k_ne, ?_⟩)); exact List.forall_mem_nil _))
  (case nnrw => (refine neAll_of ?_; (iterate 19 (refine List.forall_mem_cons.mpr ⟨by k_ne, ?_⟩)); exact List.forall_mem_nil _))
  (case nnls => (refine neAll_of ?_; (iterate 11 (refine List.forall_mem_cons.mpr ⟨by k_ne, ?_⟩)); exact List.forall_mem_nil _))
  (case nnld => (refine neAll_of ?_; (iterate 10 (refine List.forall_mem_cons.mpr ⟨by k_ne, ?_⟩)); exact List.forall_mem_nil _))
  (case hlg => exact ⟨by k_ne, by k_ne⟩)
  (case hid => assumption)
  (case hld => assumption)
  (case hig => assumption)
  (case hic => (show IntsAre _ ([] ++ List.replicate (Int.toNat 8) 0); assumption))
  (case hf0 => omega)
  (case hf1 => omega)
  (case hl0 => omega)
  (case hl1 => omega)
end PF14

end PK

section PF12
set_option maxHeartbeats 4000000 in
theorem law_p2 (w : World) {s : Shared}
    {qual : Str} {body : List Stmt} {scope : Scope} {cdv : Value} (hat : LawAt w qual body scope cdv)
    {p : Program} {loose : List Str} {mean : ExcName → Option Value} {mg mb : Str → Option Value} {A₀ : Around} {base g : Heap} {L : Addr} {h₁ : Heap} {tk : Nat} {o1 o2 o3 o4 o5 o6 o7 : Obj} {m : Str → Option Value}
    (B : Below A₀ base [] g) (X : (Mine.hd.heap_1_39 w.params).In g) (T : Top p loose mean mg mb g)
    {ld la : Addr} {vd va : List Value} {nd na : List Int} {kd ka : Nat} {tab : Int} {tt : Tok}
    (F : Fr g L h₁ m)
    (N : News g L h₁ [(ld, listOf vd.toArray kd), (la, listOf va.toArray ka), (L + 1 + 1 + 1 + 1 + 1 + 1 + 1, o1), (L + 1 + 1 + 1 + 1 + 1 + 1, o2), (L + 1 + 1 + 1 + 1 + 1, o3), (L + 1 + 1 + 1 + 1, o4), (L + 1 + 1 + 1, o5), (L + 1 + 1, o6), (L + 1, o7)])
    (d1 : o1.data = .cell none) (d2 : o2.data = .cell none) (d3 : o3.data = .cell none) (d4 : o4.data = .cell none) (d5 : o5.data = .cell (some (.int tab tt))) (d6 : o6.data = .cell (some (.ref la))) (d7 : o7.data = .cell (some (.ref ld)))
    (e7 : NeA (L + 1 + 1 + 1 + 1 + 1 + 1 + 1) ld) (e6 : NeA (L + 1 + 1 + 1 + 1 + 1 + 1) ld) (e5 : NeA (L + 1 + 1 + 1 + 1 + 1) ld) (e4 : NeA (L + 1 + 1 + 1 + 1) ld) (e3 : NeA (L + 1 + 1 + 1) ld) (e2 : NeA (L + 1 + 1) ld) (e1 : NeA (L + 1) ld)
    (hla : @LT.lt Nat _ (L + 1 + 1 + 1 + 1 + 1 + 1 + 1) la) (hda : NeA la ld)
    (hid : IntsAre vd nd) (hld : nd.length ≤ 40) (hia : IntsAre va na) (hna : na = [] ∨ na = [98, 10] ∨ na = [9, 10, 10]) (htab : tab = 8 ∨ tab = 4 ∨ tab = 3) :
    LawGo w g s L qual scope cdv body 2 h₁ tk := by
  w_top off
  k_with_none
  k_with "k_ne" => first | exact NeA.out (by assumption) | exact NeA.tuo (by assumption) | (refine neN ?_; (try dsimp only); omega)
  k_with "BodyEnd" => (refine bodyEnd_ (by assumption) ?_)
  k_with "execs cons" => (k_here; (with_reducible show wpAny _ _ (execs [_, _, _, _, _, _, _, _, _, _, _, _] _) _ _ _); refine stopHere ?_)
  k_with "call ref" => (k_here; k_dflt (
      refine' draw_use ?mqB ?mqF ?mqX ?mqN ?mqT ?mqk ?mqU ?mqi ?mqm ?mqm2 ?mql ?mqd ?mqu ?_
      (case mqB => k_asm)
      (case mqF => k_asm)
      (case mqX => k_asm)
      (case mqN => k_asm)
      (case mqT => k_asm)
      (case mqk => first | exact rfl | assumption)
      (case mqU => k_updF)
      (case mqi => l_ints)
      (case mqm => decide)
      (case mqm2 => decide)
      (case mql => first | omega | (simp only [List.length_map, List.length_take]; omega))
      (case mqd => decide)
      (case mqu => decide)
      intro r' t' h' tk' vs' ns' n' h0' h1' F' N' hI' hl'
      try dsimp only at N'
      try k_sweep))
  k_with "subscriptTail" => (k_here; (with_reducible show wpAny _ _ (subscriptTail _ _ (Value.ref _) (Value.int _ _)) _ _ _); (k_dflt (refine' item_lit ?mqN ?mqm ?mqi ?mqk0 ?mqk1 ?mqkb ?_ ?mqks; (case mqN => k_asm); (case mqm => k_mem); (case mqi => (first | exact IntsAre.nil | exact (IntsAre.cons _ _ IntsAre.nil) | exact (IntsAre.cons _ _ (IntsAre.cons _ _ IntsAre.nil)) | exact (IntsAre.cons _ _ (IntsAre.cons _ _ (IntsAre.cons _ _ IntsAre.nil))) | exact (IntsAre.cons _ _ (IntsAre.cons _ _ (IntsAre.cons _ _ (IntsAre.cons _ _ (IntsAre.cons _ _ (IntsAre.cons _ _ (IntsAre.cons _ _ (IntsAre.cons _ _ IntsAre.nil)))))))))); (case mqk0 => first | omega | exact Int.fmod_nonneg_of_pos _ (by decide)); (case mqk1 => first | (simp only [List.length_cons, List.length_nil]; omega) | exact Int.fmod_lt_of_pos _ (by decide)); (case mqkb => first | omega | exact Int.lt_trans (Int.fmod_lt_of_pos _ (by decide)) (by decide)); (case mqks => with_unfolding_all rfl))); intro x' t' hx')
  k_with "subscriptTail" => (k_here; (with_reducible show wpAny _ _ (subscriptTail _ _ (Value.ref _) (Value.int _ _)) _ _ _); (rename News _ _ _ _ => hN9); (k_dflt (refine' pick3 ?mqN ?mqD ?mqh0 ?mqh3 ?mqa ?mqb ?mqc ?mqia ?mqib ?mqic ?_ ?mqks; (case mqN => exact hN9); (case mqD => k_mem); (case mqh0 => omega); (case mqh3 => omega); (case mqa => k_mem); (case mqb => k_mem); (case mqc => k_mem); (case mqia => (first | exact IntsAre.nil | exact (IntsAre.cons _ _ IntsAre.nil) | exact (IntsAre.cons _ _ (IntsAre.cons _ _ IntsAre.nil)) | exact (IntsAre.cons _ _ (IntsAre.cons _ _ (IntsAre.cons _ _ IntsAre.nil))) | exact (IntsAre.cons _ _ (IntsAre.cons _ _ (IntsAre.cons _ _ (IntsAre.cons _ _ (IntsAre.cons _ _ (IntsAre.cons _ _ (IntsAre.cons _ _ (IntsAre.cons _ _ IntsAre.nil)))))))))); (case mqib => (first | exact IntsAre.nil | exact (IntsAre.cons _ _ IntsAre.nil) | exact (IntsAre.cons _ _ (IntsAre.cons _ _ IntsAre.nil)) | exact (IntsAre.cons _ _ (IntsAre.cons _ _ (IntsAre.cons _ _ IntsAre.nil))) | exact (IntsAre.cons _ _ (IntsAre.cons _ _ (IntsAre.cons _ _ (IntsAre.cons _ _ (IntsAre.cons _ _ (IntsAre.cons _ _ (IntsAre.cons _ _ (IntsAre.cons _ _ IntsAre.nil)))))))))); (case mqic => (first | exact IntsAre.nil | exact (IntsAre.cons _ _ IntsAre.nil) | exact (IntsAre.cons _ _ (IntsAre.cons _ _ IntsAre.nil)) | exact (IntsAre.cons _ _ (IntsAre.cons _ _ (IntsAre.cons _ _ IntsAre.nil))) | exact (IntsAre.cons _ _ (IntsAre.cons _ _ (IntsAre.cons _ _ (IntsAre.cons _ _ (IntsAre.cons _ _ (IntsAre.cons _ _ (IntsAre.cons _ _ (IntsAre.cons _ _ IntsAre.nil)))))))))); (case mqks => with_unfolding_all rfl))); intro x' vx' nx' xs' N' hx' hI' hxs'; clear hN9; (try dsimp only at N'); (try k_sweep))
  k_with "CompSrc" => (k_here; k_dflt (refine LCg.CompSrc.range (by rfl) (by k_asm) (by k_asm) (by assumption) (by exact small_one (by omega) (by omega) (by omega) (by omega)) (by exact rangeSize_nat _ _) (by (rw [PySem.sizeLine_eq]; omega)) ?_; intro g'; (refine' comp_drawA [97, 1, 9, 128, 127, 160, 9, 31] ?mqhcl ?mqhc ?mqhd ?mqU ?mqhi ?mqhl (fun I' oI' C' oC' D' m' ys' h' tk' E' vs' ns' n' hi' hl' hC' F' N' off' nI' nC' nD' hMark' => ?_) (fun ys' xs' vs' ns' n' hy' hm' hx' hi' hl' => ?_); (case mqhcl => exact rfl); (case mqhc => k_mem); (case mqhd => k_asm); (case mqU => k_updF); (case mqhi => l_ints); (case mqhl => omega)); (all_goals (try dsimp only at N' off')); (all_goals (try dsimp only)); kcf_last))
  k_with "CompEnd" => (k_here; k_dflt (refine' draw_end ?mqF ?mqN ?mqhm ?mqhi ?mqhl ?mqhy ?mqsub ?mqoff ?mqhS; (case mqF => k_asm); (case mqN => k_asm); (case mqhm => k_mem); (case mqhi => l_ints); (case mqhl => omega); (case mqhy => assumption); (case mqsub => kcf_all); (case mqoff => assumption); (case mqhS => trivial)))
  k_with "FinE" => ((unfold LCg.FinE); intro D' h' tk' F' N' o1'; k_dflt (have hq' := allNe_of o1'); clear o1'; (simp only [AllNe, and_true] at hq'); (obtain ⟨q1', q2', q3', q4', q5', q6', q7', q8', q9'⟩ := hq'); (try simp only [List.nil_append, List.cons_append] at N'); (try dsimp only))
  have hK0 : True ∨ PCall w 35 [] 1 (fun _ => True) (fun _ _ _ => True) := by
    unfold PCall
    k_fill
    exact .inl trivial
  clear hK0
  obtain ⟨rfl, rfl, rfl, rfl⟩ := law_lit hat (by k_is)
  have hat' := hat
  clear hat
  unfold LawGo
  try dsimp only [List.drop]
  try k_fold
  k_steps
  unfold StopHere
  rename News _ _ _ _ => N9
  rename Fr _ _ _ _ => F9
  have hna3 : na.length ≤ 3 := by rcases hna with h | h | h <;> rw [h] <;> decide
  refine' law_p3 w hat' B X T (tab := tab) (na := na) (tt := tt) F9 (fun q hq => N9 q ((List.forall_mem_cons.mpr ⟨?mr, List.forall_mem_cons.mpr ⟨?md, List.forall_mem_cons.mpr ⟨?ma, List.forall_mem_cons.mpr ⟨?m1, List.forall_mem_cons.mpr ⟨?m2, List.forall_mem_cons.mpr ⟨?m3, List.forall_mem_cons.mpr ⟨?m4, List.forall_mem_cons.mpr ⟨?m5, List.forall_mem_cons.mpr ⟨?m6, List.forall_mem_cons.mpr ⟨?m7, List.forall_mem_nil _⟩⟩⟩⟩⟩⟩⟩⟩⟩⟩) q hq)) ?g1 ?g2 ?g3 ?g4 ?g5 ?g6 ?g7 e7 e6 e5 e4 e3 e2 e1 ?fd ?fa ?f7 ?f6 ?f5 ?f4 ?f3 ?f2 ?f1 hla hda ?hid ?hld hia hna htab ?hir ?hmr ?hr1 ?hr8 hna3
  (case m7 => k_mem)
  (case g7 => assumption)
  (case m6 => k_mem)
  (case g6 => assumption)
  (case m5 => k_mem)
  (case g5 => assumption)
  (case m4 => k_mem)
  (case g4 => assumption)
  (case m3 => k_mem)
  (case g3 => assumption)
  (case m2 => k_mem)
  (case g2 => assumption)
  (case m1 => k_mem)
  (case g1 => assumption)
  (case mr => k_mem)
  (case md => k_mem)
  (case ma => k_mem)
  (case hir => assumption)
  (case hid => assumption)
  (case hmr => assumption)
  (case hld => assumption)
  (case hr1 => omega)
  (case hr8 => omega)
  (case fd => assumption)
  (case fa => assumption)
  (case f7 => assumption)
  (case f6 => assumption)
  (case f5 => assumption)
  (case f4 => assumption)
  (case f3 => assumption)
  (case f2 => assumption)
  (case f1 => assumption)
end PF12

section PF13
set_option maxHeartbeats 4000000 in
theorem law_p0 (w : World) (l : Addr) (vs : List Value) (ns : List Int) (hi : IntsAre vs ns) (hlen : ns.length ≤ 63) {s : Shared}
    {qual : Str} {body : List Stmt} {scope : Scope} {cdv : Value} (hat : LawAt w qual body scope cdv)
    {p : Program} {loose : List Str} {mean : ExcName → Option Value} {mg mb : Str → Option Value} {A₀ : Around} {base g : Heap} {L : Addr} {h₁ : Heap} {tk : Nat} {o1 o2 o3 o4 o5 o6 o7 : Obj}
    (B : Below A₀ base [] g) (X : (Mine.hd.heap_1_39 w.params).In g) (T : Top p loose mean mg mb g) (hl : g.IsList l vs.toArray)
    (F : Fr g L h₁ (fun y => if y = "script" then some (.ref l) else none))
    (N : News g L h₁ [(L + 1 + 1 + 1 + 1 + 1 + 1 + 1, o1), (L + 1 + 1 + 1 + 1 + 1 + 1, o2), (L + 1 + 1 + 1 + 1 + 1, o3), (L + 1 + 1 + 1 + 1, o4), (L + 1 + 1 + 1, o5), (L + 1 + 1, o6), (L + 1, o7)])
    (d1 : o1.data = .cell none) (d2 : o2.data = .cell none) (d3 : o3.data = .cell none) (d4 : o4.data = .cell none) (d5 : o5.data = .cell none) (d6 : o6.data = .cell none) (d7 : o7.data = .cell none) :
    LawGo w g s L qual scope cdv body 0 h₁ tk := by
  w_top off
  k_with_none
  k_with "k_ne" => first | exact NeA.out (by assumption) | exact NeA.tuo (by assumption) | (refine neN ?_; (try dsimp only); omega)
  k_with "BodyEnd" => (refine bodyEnd_ (by assumption) ?_)
  k_with "execs cons" => (k_here; (with_reducible show wpAny _ _ (execs [_, _, _, _, _, _, _, _, _, _, _, _, _] _) _ _ _); refine stopHere ?_)
  k_with "call ref" => (k_here; k_dflt (
      refine' draw_use ?mqB ?mqF ?mqX ?mqN ?mqT ?mqk ?mqU ?mqi ?mqm ?mqm2 ?mql ?mqd ?mqu ?_
      (case mqB => k_asm)
      (case mqF => k_asm)
      (case mqX => k_asm)
      (case mqN => k_asm)
      (case mqT => k_asm)
      (case mqk => first | exact rfl | assumption)
      (case mqU => k_updF)
      (case mqi => l_ints)
      (case mqm => decide)
      (case mqm2 => decide)
      (case mql => first | omega | (simp only [List.length_map, List.length_take]; omega))
      (case mqd => decide)
      (case mqu => decide)
      intro r' t' h' tk' vs' ns' n' h0' h1' F' N' hI' hl'
      try dsimp only at N'
      try k_sweep))
  k_with "subscriptTail" => (k_here; (with_reducible show wpAny _ _ (subscriptTail _ _ (Value.ref _) (Value.int _ _)) _ _ _); (k_dflt (refine' item_lit ?mqN ?mqm ?mqi ?mqk0 ?mqk1 ?mqkb ?_ ?mqks; (case mqN => k_asm); (case mqm => k_mem); (case mqi => (first | exact IntsAre.nil | exact (IntsAre.cons _ _ IntsAre.nil) | exact (IntsAre.cons _ _ (IntsAre.cons _ _ IntsAre.nil)) | exact (IntsAre.cons _ _ (IntsAre.cons _ _ (IntsAre.cons _ _ IntsAre.nil))) | exact (IntsAre.cons _ _ (IntsAre.cons _ _ (IntsAre.cons _ _ (IntsAre.cons _ _ (IntsAre.cons _ _ (IntsAre.cons _ _ (IntsAre.cons _ _ (IntsAre.cons _ _ IntsAre.nil)))))))))); (case mqk0 => first | omega | exact Int.fmod_nonneg_of_pos _ (by decide)); (case mqk1 => first | (simp only [List.length_cons, List.length_nil]; omega) | exact Int.fmod_lt_of_pos _ (by decide)); (case mqkb => first | omega | exact Int.lt_trans (Int.fmod_lt_of_pos _ (by decide)) (by decide)); (case mqks => with_unfolding_all rfl))); intro x' t' hx')
  k_with "subscriptTail" => (k_here; (with_reducible show wpAny _ _ (subscriptTail _ _ (Value.ref _) (Value.int _ _)) _ _ _); (rename News _ _ _ _ => hN9); (k_dflt (refine' pick3 ?mqN ?mqD ?mqh0 ?mqh3 ?mqa ?mqb ?mqc ?mqia ?mqib ?mqic ?_ ?mqks; (case mqN => exact hN9); (case mqD => k_mem); (case mqh0 => omega); (case mqh3 => omega); (case mqa => k_mem); (case mqb => k_mem); (case mqc => k_mem); (case mqia => (first | exact IntsAre.nil | exact (IntsAre.cons _ _ IntsAre.nil) | exact (IntsAre.cons _ _ (IntsAre.cons _ _ IntsAre.nil)) | exact (IntsAre.cons _ _ (IntsAre.cons _ _ (IntsAre.cons _ _ IntsAre.nil))) | exact (IntsAre.cons _ _ (IntsAre.cons _ _ (IntsAre.cons _ _ (IntsAre.cons _ _ (IntsAre.cons _ _ (IntsAre.cons _ _ (IntsAre.cons _ _ (IntsAre.cons _ _ IntsAre.nil)))))))))); (case mqib => (first | exact IntsAre.nil | exact (IntsAre.cons _ _ IntsAre.nil) | exact (IntsAre.cons _ _ (IntsAre.cons _ _ IntsAre.nil)) | exact (IntsAre.cons _ _ (IntsAre.cons _ _ (IntsAre.cons _ _ IntsAre.nil))) | exact (IntsAre.cons _ _ (IntsAre.cons _ _ (IntsAre.cons _ _ (IntsAre.cons _ _ (IntsAre.cons _ _ (IntsAre.cons _ _ (IntsAre.cons _ _ (IntsAre.cons _ _ IntsAre.nil)))))))))); (case mqic => (first | exact IntsAre.nil | exact (IntsAre.cons _ _ IntsAre.nil) | exact (IntsAre.cons _ _ (IntsAre.cons _ _ IntsAre.nil)) | exact (IntsAre.cons _ _ (IntsAre.cons _ _ (IntsAre.cons _ _ IntsAre.nil))) | exact (IntsAre.cons _ _ (IntsAre.cons _ _ (IntsAre.cons _ _ (IntsAre.cons _ _ (IntsAre.cons _ _ (IntsAre.cons _ _ (IntsAre.cons _ _ (IntsAre.cons _ _ IntsAre.nil)))))))))); (case mqks => with_unfolding_all rfl))); intro x' vx' nx' xs' N' hx' hI' hxs'; clear hN9; (try dsimp only at N'); (try k_sweep))
  k_with "CompSrc" => (k_here; k_dflt (refine LCg.CompSrc.range (by rfl) (by k_asm) (by k_asm) (by assumption) (by exact small_one (by omega) (by omega) (by omega) (by omega)) (by exact rangeSize_nat _ _) (by (rw [PySem.sizeLine_eq]; omega)) ?_; intro g'; (refine' comp_draw [97, 1, 9, 128, 127, 160, 9, 31] ?mqhcl ?mqhc ?mqhd ?mqU ?mqhi ?mqhl (fun I' oI' C' oC' D' m' ys' h' tk' E' vs' ns' n' hi' hl' hC' F' N' off' ne' hMark' => ?_) (fun ys' xs' vs' ns' n' hy' hm' hx' hi' hl' => ?_); (case mqhcl => exact rfl); (case mqhc => k_mem); (case mqhd => k_asm); (case mqU => k_updF); (case mqhi => l_ints); (case mqhl => omega)); (all_goals (try (simp only [LCg.Off3, and_true] at off'))); (all_goals (try dsimp only at N')); (all_goals (try dsimp only)); kcf_last))
  k_with "CompEnd" => (k_here; k_dflt (refine' draw_end ?mqF ?mqN ?mqhm ?mqhi ?mqhl ?mqhy ?mqsub ?mqoff ?mqhS; (case mqF => k_asm); (case mqN => k_asm); (case mqhm => k_mem); (case mqhi => l_ints); (case mqhl => omega); (case mqhy => assumption); (case mqsub => kcf_all); (case mqoff => (simp only [LCg.Off3, and_true]; assumption)); (case mqhS => trivial)))
  k_with "FinE" => ((unfold LCg.FinE); intro D' h' tk' F' N' o1'; k_dflt (have hq' := allNe_of o1'); clear o1'; (simp only [AllNe, and_true] at hq'); (obtain ⟨q1', q2', q3', q4', q5', q6', q7', q8'⟩ := hq'); (try simp only [List.nil_append, List.cons_append] at N'); (try dsimp only))
  have hK0 : True ∨ PCall w 35 [] 1 (fun _ => True) (fun _ _ _ => True) := by
    unfold PCall
    k_fill
    exact .inl trivial
  clear hK0
  obtain ⟨rfl, rfl, rfl, rfl⟩ := law_lit hat (by k_is)
  unfold LawGo
  try dsimp only [List.drop]
  try k_fold
  k_steps
  unfold StopHere
  rename News _ _ _ _ => N9
  rename Fr _ _ _ _ => F9
  have hat' := hat
  refine' law_p2 w hat' B X T F9 (fun q hq => N9 q ((List.forall_mem_cons.mpr ⟨?md, List.forall_mem_cons.mpr ⟨?ma, List.forall_mem_cons.mpr ⟨?m1, List.forall_mem_cons.mpr ⟨?m2, List.forall_mem_cons.mpr ⟨?m3, List.forall_mem_cons.mpr ⟨?m4, List.forall_mem_cons.mpr ⟨?m5, List.forall_mem_cons.mpr ⟨?m6, List.forall_mem_cons.mpr ⟨?m7, List.forall_mem_nil _⟩⟩⟩⟩⟩⟩⟩⟩⟩) q hq)) ?e1 ?e2 ?e3 ?e4 ?e5 ?e6 ?e7 ?n7 ?n6 ?n5 ?n4 ?n3 ?n2 ?n1 ?hla ?hda ?hid ?hld ?hia ?hna ?htab
  (case m1 => k_mem)
  (case e1 => assumption)
  (case m2 => k_mem)
  (case e2 => assumption)
  (case m3 => k_mem)
  (case e3 => assumption)
  (case m4 => k_mem)
  (case e4 => assumption)
  (case m5 => k_mem)
  (case e5 => assumption)
  (case m6 => k_mem)
  (case e6 => assumption)
  (case m7 => k_mem)
  (case e7 => assumption)
  (case md => k_mem)
  (case ma => k_mem)
  (case hid => assumption)
  (case hia => assumption)
  (case hld => assumption)
  (case hna => assumption)
  (case n7 => assumption)
  (case n6 => assumption)
  (case n5 => assumption)
  (case n4 => assumption)
  (case n3 => assumption)
  (case n2 => assumption)
  (case n1 => assumption)
  (case hla => omega)
  (case hda => (show @Ne Nat _ _; omega))
  (case htab => (rename _ ∈ [8, 4, 3] => hx9; simpa using hx9))
end PF13

section PF19
set_option maxHeartbeats 4000000 in
theorem top_call (w : World) (s₁ : Shared) {p : Program} {loose : List Str} {mean : ExcName → Option Value} {mg mb : Str → Option Value} {l : Addr} {vs : List Value} {ns : List Int} {R : Result → Shared → Prop} (hI : IntsAre vs ns) (hlen : ns.length ≤ 63) (hL : s₁.heap.IsList l vs.toArray)
    (KX : (Mine.hd.heap_1_39 w.params).In s₁.heap) (T : Top p loose mean mg mb s₁.heap) (hret : ∀ v h' tk, s₁.heap.StaysIn h' → v = .bool true → R (.ok (.ret v)) { s₁ with heap := h', toks := tk }) :
    codeAny (model PySem.Challenge.rw_rg0137_01.row.prog w) callerA (.call (.ref 506) ⟨[.ref l], []⟩) R s₁ := by
  have hK0 : True ∨ PCall w 35 [] 1 (fun _ => True) (fun _ _ _ => True) := by
    unfold PCall
    k_fill
    exact .inl trivial
  clear hK0
  refine' ccall_top (post := fun _ _ v => v = .bool true) (binds := [("script", .ref l)]) (mL := fun y => if y = "script" then some (.ref l) else none) (mC := fun _ => none) ?k6 ?k7 ?k9 ?kB ?kD ?mL ?mC ?c2 ?c3 ?c4 KX T ?h hret
  (case k6 => k_is)
  (case k7 => k_is)
  (case k9 => intro _; exact BindsTo.of_eq rfl)
  (case kB => exact rfl)
  (case kD => decide +kernel)
  (case mL => intro _; rfl)
  (case mC => intro _; rfl)
  (case c2 => exact rfl)
  (case c3 => exact rfl)
  (case c4 => exact rfl)
  (case h =>
    intro A₀ base g L h₁ tk cells B F N Yc X' T' eg
    subst eg
    obtain ⟨o1, o2, o3, o4, o5, o6, o7, rfl, d1, d2, d3, d4, d5, d6, d7⟩ := CellsAre.seven Yc
    exact law_p0 w l vs ns hI hlen ⟨_, _, _, _, _, _, _, _, _, _, _, by k_is⟩ B X' T' hL F N d1 d2 d3 d4 d5 d6 d7)
set_option maxHeartbeats 4000000 in
theorem top_ : PySem.Challenge.rw_rg0137_01.Holds := hd._proof_1_720 (by
  k_fill
  intro w s₀ s₁ mg mb G Y fa o pm cd doc dV kV ho hd hcd hD hmg hg args vals as hpre hlay hrd hwl hlo
  have KX := kIn_of Y
  refine Ground.open G ?_
  intro T B D TE TW
  clear ho hd hcd hD B D TE TW
  have e506 := mg_of (v := .ref 506) (n := "law") KX T.g (by k_is)
  have hmg' : mg "law" = some (.ref fa) := hmg
  rw [e506] at hmg'
  obtain rfl : 506 = fa := by simpa using hmg'
  clear hmg hmg' e506
  wrow_args hpre hlay hrd hwl hlo
  rename List Int => ns
  rename IntsAre _ ns => hI
  rename (_ : Heap).IsList _ _ => hL
  refine enter_call ?_
  refine top_call w s₁ hI (by omega) hL KX T fun v h' tk st hv => ?_
  subst hv
  exact ⟨.inl ⟨.bool true, .bool true, [], rfl, fun _ => rfl, .bool true, (by wrow_post), unshared_nil⟩, .of_keep st, rfl, .of_eq hg⟩)
end PF19

end Mine
theorem PySem.Challenge.cw_rg0137_01_holds : PySem.Challenge.rw_rg0137_01.Holds :=
  Mine.top_
